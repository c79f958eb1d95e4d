import Derived.Test.YtfkhblmeioiciaaGreatDoorVaA
import Derived.Test.YtfkhblmeioiciaaGreatDoorProg
import Derived.Laws.Externs
set_option maxRecDepth 100000
set_option maxHeartbeats 8000000
set_option linter.unusedVariables false
set_option linter.unusedSimpArgs false
namespace Go.Proofs.YtfkhblmeioiciaaGreatDoor
open Go.RowKit Go.ChangeShapes Go.WideShapes
def tys_KaD:List (Nat×TI):=[(37,⟨false,1,[.int .i8 (.lit 0)],[],none,some .i8,false,false,none,1,false,none,false,0⟩),
 (42,⟨false,1,[.int .u64 (.lit 0)],[],none,some .u64,false,false,none,8,false,none,false,0⟩),
 (46,⟨true,2,[.int .u64 (.lit 0),.int .u64 (.lit 0)],[(0,42),(1,42)],none,none,false,false,none,16,false,none,false,0⟩),
 (196,⟨false,1,[.nilf],[],none,none,false,false,none,8,true,none,false,0⟩),
 (245,⟨true,13,[.nilf,.nilf,.nilf,.nilf,.nilf,.nilf,.nilf,.nilf,.nilf,.nilf,.nilf,.nilf,.nilf],[],some (13,196),none,false,false,none,104,false,none,false,0⟩)]
theorem acB:(tys_KaD.all fun p=>ckTI Tryz.prog p.1 p.2)=true:=by kernel_rfl
theorem tj:(tys_KaD.all fun p=>!p.2.eqok)=true:=by kernel_rfl
theorem ach:(tys_KaD.all fun p=>!p.2.keyok)=true:=by kernel_rfl
theorem cC:∀t i,(t,i)∈tys_KaD->TIok Tryz.prog t i:=by
 intro t i h
 refine bC (cz (f:=ckTI Tryz.prog) acB h) (fun he=> ?_) (fun he=> ?_) (fun he=> ?_)
 ·have h1:=thm7.1 tj (t,i) h
  simp[he] at h1
 ·have h1:=thm7.1 tj (t,i) h
  simp[he] at h1
 ·have h1:=thm7.1 ach (t,i) h
  simp[he] at h1
def ru (key:Nat):Sm:=⟨243,key,[.one (.int .u64),.one (.int .u64),.agg kKn,.agg kKn],[.agg kKn],false⟩
def qI (v:Int) (x:Int) (a:Kn) (b:Kn):List Dt:=[.z ((lG v (bits .or .u64 (bits .or .u64 (bits .xor .u64 v x) a.m) b.m)).v),.z ((lG v (bits .or .u64 (bits .or .u64 (bits .xor .u64 v x) a.m) b.m)).m)]
def jy:List Dt->List Dt
 | [.z x0,.z x1,.z x2,.z x3,.z x4,.z x5]=>qI x0 x1 ⟨x2,x3⟩ ⟨x4,x5⟩
 | _=>[]
def sT_kcarr:Tr:=
(.call 0 (kKn) (.cons (.var 0) (.cons (.bin .or .u64 (.bin .or .u64 (.bin .xor .u64 (.var 0) (.var 1)) (.var 3)) (.var 5)) .nil)) 6
(.leaf (.vs 6 2 .nil)))
def yW:Spec:={F:=fun k=>match k with | 0=>bG | _=>fun _=>[],pre:=fun k=>match k with | _=>fun _=>True}
theorem aib:aq tys_KaD [dW 0] [] [] [] 200 Tryz.f243 [.one (.int .u64),.one (.int .u64),.agg kKn,.agg kKn] [.agg kKn] false [.int .u64,.int .u64,.int .u64,.int .u64,.int .u64,.int .u64] sT_kcarr:=⟨by kernel_rfl,by kernel_rfl,by kernel_rfl⟩
set_option linter.defProp false in
def ak:=And.intro Kn.eta (And.intro Pi.eta (And.intro Pu.eta (And.intro Rg.eta (And.intro Sc.eta (And.intro Sc.eta_r (And.intro Sc.eta_k (Sc.eta_2)))))))
theorem ahH (v:Int) (hv:inK .u64 v=true) (x:Int) (hx:inK .u64 x=true) (a:Kn) (ha:Kn.ok a) (b:Kn) (hb:Kn.ok b) (U:Env) (g:ab U 0 [.int .u64,.int .u64,.int .u64,.int .u64,.int .u64,.int .u64]=[.z v,.z x,.z a.v,.z a.m,.z b.v,.z b.m]):sT_kcarr.asks yW (fun U e=>e.D U=jy [.z v,.z x,.z a.v,.z a.m,.z b.v,.z b.m]) U fun _ _=>False:=by
 simp only[ab,varD,thm5,Dt.z.injEq,Dt.l.injEq,b2i_eq_iff,Nat.reduceAdd,and_true] at g
 simp only[sT_kcarr,yW,kKn,bG,dU,jy,qI,Tr.asks,ah,okDs,okD,eqs,E.I,E.B,E.L,E.R,E.D,E.vs,E.gs,E.ins,E.sv,E.tn,E.iv,E.zs,E.zr,E.sg,E.tg,E.rg,E.rgs,E.pv,Nat.reduceSub,dI,dB,dL,varD,ab,S1,Nat.reduceAdd,-eq_self,ak,g]
 intro e; (try simp only[e,ak,-eq_self]); clear e
 ·rfl
theorem aix {sp:Spec} {key:Nat} (hF:sp.F key=jy) (hP:sp.pre key=fun _=>True:=by rfl):SmOk Tryz.prog sp (ru key):=
 av (s:=ru key) hF hP (by kernel_rfl) cC (smc (gE rfl) sm0) Tryz.func243 fn0 aib (.inl rfl) (fun x0 gx0 x1 gx1 x2 gx2 x3 gx3 x4 gx4 x5 gx5 hp U g=>ahH x0 gx0 x1 gx1 ⟨x2,x3⟩ ⟨gx2,gx3⟩ ⟨x4,x5⟩ ⟨gx4,gx5⟩ U g)
def wR (key:Nat):Sm:=⟨227,key,[.agg kKn,.agg kKn],[.agg kKn],false⟩
def wo (a:Kn) (b:Kn):List Dt:=[.z ((kadd a b).v),.z ((kadd a b).m)]
def nJ:List Dt->List Dt
 | [.z x0,.z x1,.z x2,.z x3]=>wo ⟨x0,x1⟩ ⟨x2,x3⟩
 | _=>[]
def sT_kadd:Tr:=
(.call 0 (kKn) (.cons (.bin .add .u64 (.var 0) (.var 2)) (.cons (.bin .add .u64 (.bin .add .u64 (.var 1) (.var 3)) (.bin .add .u64 (.var 0) (.var 2))) (.vs 0 4 .nil))) 4
(.leaf (.vs 4 2 .nil)))
def aet:Spec:={F:=fun k=>match k with | 0=>jy | _=>fun _=>[],pre:=fun k=>match k with | _=>fun _=>True}
theorem al6:aq tys_KaD [ru 0] [] [] [] 200 Tryz.f227 [.agg kKn,.agg kKn] [.agg kKn] false [.int .u64,.int .u64,.int .u64,.int .u64] sT_kadd:=⟨by kernel_rfl,by kernel_rfl,by kernel_rfl⟩
theorem alq (a:Kn) (ha:Kn.ok a) (b:Kn) (hb:Kn.ok b) (U:Env) (g:ab U 0 [.int .u64,.int .u64,.int .u64,.int .u64]=[.z a.v,.z a.m,.z b.v,.z b.m]):sT_kadd.asks aet (fun U e=>e.D U=nJ [.z a.v,.z a.m,.z b.v,.z b.m]) U fun _ _=>False:=by
 simp only[ab,varD,thm5,Dt.z.injEq,Dt.l.injEq,b2i_eq_iff,Nat.reduceAdd,and_true] at g
 simp only[sT_kadd,aet,kKn,jy,qI,nJ,wo,Tr.asks,ah,okDs,okD,eqs,E.I,E.B,E.L,E.R,E.D,E.vs,E.gs,E.ins,E.sv,E.tn,E.iv,E.zs,E.zr,E.sg,E.tg,E.rg,E.rgs,E.pv,Nat.reduceSub,dI,dB,dL,varD,ab,S1,Nat.reduceAdd,-eq_self,ak,g]
 intro e; (try simp only[e,ak,-eq_self]); clear e
 ·(unfold kadd; rfl)
theorem amw {sp:Spec} {key:Nat} (hF:sp.F key=nJ) (hP:sp.pre key=fun _=>True:=by rfl):SmOk Tryz.prog sp (wR key):=
 av (s:=wR key) hF hP (by kernel_rfl) cC (smc (aix rfl) sm0) Tryz.func227 fn0 al6 (.inl rfl) (fun x0 gx0 x1 gx1 x2 gx2 x3 gx3 hp U g=>alq ⟨x0,x1⟩ ⟨gx0,gx1⟩ ⟨x2,x3⟩ ⟨gx2,gx3⟩ U g)
def rq (key:Nat):Sm:=⟨228,key,[.agg kKn,.agg kKn],[.agg kKn],false⟩
def qG (a:Kn) (b:Kn):List Dt:=[.z ((ksub a b).v),.z ((ksub a b).m)]
def iF:List Dt->List Dt
 | [.z x0,.z x1,.z x2,.z x3]=>qG ⟨x0,x1⟩ ⟨x2,x3⟩
 | _=>[]
def sT_ksub:Tr:=
(.call 0 (kKn) (.cons (.bin .sub .u64 (.var 0) (.var 2)) (.cons (.bin .or .u64 (.bin .or .u64 (.bin .xor .u64 (.bin .add .u64 (.bin .sub .u64 (.var 0) (.var 2)) (.var 1)) (.bin .sub .u64 (.bin .sub .u64 (.var 0) (.var 2)) (.var 3))) (.var 1)) (.var 3)) .nil)) 4
(.leaf (.vs 4 2 .nil)))
def ael:Spec:={F:=fun k=>match k with | 0=>bG | _=>fun _=>[],pre:=fun k=>match k with | _=>fun _=>True}
theorem alY:aq tys_KaD [dW 0] [] [] [] 200 Tryz.f228 [.agg kKn,.agg kKn] [.agg kKn] false [.int .u64,.int .u64,.int .u64,.int .u64] sT_ksub:=⟨by kernel_rfl,by kernel_rfl,by kernel_rfl⟩
theorem alg (a:Kn) (ha:Kn.ok a) (b:Kn) (hb:Kn.ok b) (U:Env) (g:ab U 0 [.int .u64,.int .u64,.int .u64,.int .u64]=[.z a.v,.z a.m,.z b.v,.z b.m]):sT_ksub.asks ael (fun U e=>e.D U=iF [.z a.v,.z a.m,.z b.v,.z b.m]) U fun _ _=>False:=by
 simp only[ab,varD,thm5,Dt.z.injEq,Dt.l.injEq,b2i_eq_iff,Nat.reduceAdd,and_true] at g
 simp only[sT_ksub,ael,kKn,bG,dU,iF,qG,Tr.asks,ah,okDs,okD,eqs,E.I,E.B,E.L,E.R,E.D,E.vs,E.gs,E.ins,E.sv,E.tn,E.iv,E.zs,E.zr,E.sg,E.tg,E.rg,E.rgs,E.pv,Nat.reduceSub,dI,dB,dL,varD,ab,S1,Nat.reduceAdd,-eq_self,ak,g]
 intro e; (try simp only[e,ak,-eq_self]); clear e
 ·(unfold ksub; rfl)
theorem ae2 {sp:Spec} {key:Nat} (hF:sp.F key=iF) (hP:sp.pre key=fun _=>True:=by rfl):SmOk Tryz.prog sp (rq key):=
 av (s:=rq key) hF hP (by kernel_rfl) cC (smc (gE rfl) sm0) Tryz.func228 fn0 alY (.inl rfl) (fun x0 gx0 x1 gx1 x2 gx2 x3 gx3 hp U g=>alg ⟨x0,x1⟩ ⟨gx0,gx1⟩ ⟨x2,x3⟩ ⟨gx2,gx3⟩ U g)
def wP (key:Nat):Sm:=⟨231,key,[.agg kKn,.agg kKn],[.agg kKn],false⟩
def wl (a:Kn) (b:Kn):List Dt:=[.z ((ksub (kone 0) a).v),.z ((ksub (kone 0) a).m)]
def nH:List Dt->List Dt
 | [.z x0,.z x1,.z x2,.z x3]=>wl ⟨x0,x1⟩ ⟨x2,x3⟩
 | _=>[]
def sT_kneg:Tr:=
(.call 0 (kKn) (.cons (.lit 0) .nil) 4
(.call 1 (kKn) (.vs 4 2 (.vs 0 2 .nil)) 6
(.leaf (.vs 6 2 .nil))))
def aeo:Spec:={F:=fun k=>match k with | 0=>ff | 1=>iF | _=>fun _=>[],pre:=fun k=>match k with | _=>fun _=>True}
theorem al1:aq tys_KaD [nf 0,rq 1] [] [] [] 200 Tryz.f231 [.agg kKn,.agg kKn] [.agg kKn] false [.int .u64,.int .u64,.int .u64,.int .u64] sT_kneg:=⟨by kernel_rfl,by kernel_rfl,by kernel_rfl⟩
theorem alj (a:Kn) (ha:Kn.ok a) (b:Kn) (hb:Kn.ok b) (U:Env) (g:ab U 0 [.int .u64,.int .u64,.int .u64,.int .u64]=[.z a.v,.z a.m,.z b.v,.z b.m]):sT_kneg.asks aeo (fun U e=>e.D U=nH [.z a.v,.z a.m,.z b.v,.z b.m]) U fun _ _=>False:=by
 simp only[ab,varD,thm5,Dt.z.injEq,Dt.l.injEq,b2i_eq_iff,Nat.reduceAdd,and_true] at g
 simp only[sT_kneg,aeo,kKn,ff,iF,mG,qG,nH,wl,Tr.asks,ah,okDs,okD,eqs,E.I,E.B,E.L,E.R,E.D,E.vs,E.gs,E.ins,E.sv,E.tn,E.iv,E.zs,E.zr,E.sg,E.tg,E.rg,E.rgs,E.pv,Nat.reduceSub,dI,dB,dL,varD,ab,S1,Nat.reduceAdd,-eq_self,ak,g]
 intro e; (try simp only[e,ak,-eq_self]); clear e
 intro e; (try simp only[e,ak,-eq_self]); clear e
 ·rfl
theorem amu {sp:Spec} {key:Nat} (hF:sp.F key=nH) (hP:sp.pre key=fun _=>True:=by rfl):SmOk Tryz.prog sp (wP key):=
 av (s:=wP key) hF hP (by kernel_rfl) cC (smc (wY rfl) (smc (ae2 rfl) sm0)) Tryz.func231 fn0 al1 (.inl rfl) (fun x0 gx0 x1 gx1 x2 gx2 x3 gx3 hp U g=>alj ⟨x0,x1⟩ ⟨gx0,gx1⟩ ⟨x2,x3⟩ ⟨gx2,gx3⟩ U g)
def wQ (key:Nat):Sm:=⟨230,key,[.agg kKn,.agg kKn],[.agg kKn],false⟩
def wm (a:Kn) (b:Kn):List Dt:=[.z ((kand a b).v),.z ((kand a b).m)]
def nI:List Dt->List Dt
 | [.z x0,.z x1,.z x2,.z x3]=>wm ⟨x0,x1⟩ ⟨x2,x3⟩
 | _=>[]
def sT_kand:Tr:=
(.leaf (.cons (.bin .and .u64 (.var 0) (.var 2)) (.cons (.bin .andNot .u64 (.bin .and .u64 (.bin .or .u64 (.var 0) (.var 1)) (.bin .or .u64 (.var 2) (.var 3))) (.bin .and .u64 (.var 0) (.var 2))) .nil)))
def aer:Spec:={F:=fun k=>match k with | _=>fun _=>[],pre:=fun k=>match k with | _=>fun _=>True}
theorem al4:aq tys_KaD [] [] [] [] 200 Tryz.f230 [.agg kKn,.agg kKn] [.agg kKn] false [.int .u64,.int .u64,.int .u64,.int .u64] sT_kand:=⟨by kernel_rfl,by kernel_rfl,by kernel_rfl⟩
theorem aln (a:Kn) (ha:Kn.ok a) (b:Kn) (hb:Kn.ok b) (U:Env) (g:ab U 0 [.int .u64,.int .u64,.int .u64,.int .u64]=[.z a.v,.z a.m,.z b.v,.z b.m]):sT_kand.asks aer (fun U e=>e.D U=nI [.z a.v,.z a.m,.z b.v,.z b.m]) U fun _ _=>False:=by
 simp only[ab,varD,thm5,Dt.z.injEq,Dt.l.injEq,b2i_eq_iff,Nat.reduceAdd,and_true] at g
 simp only[sT_kand,aer,nI,wm,Tr.asks,ah,okDs,okD,eqs,E.I,E.B,E.L,E.R,E.D,E.vs,E.gs,E.ins,E.sv,E.tn,E.iv,E.zs,E.zr,E.sg,E.tg,E.rg,E.rgs,E.pv,Nat.reduceSub,dI,dB,dL,varD,ab,S1,Nat.reduceAdd,-eq_self,Kn.eta,Sc.eta_r,Sc.eta_k,Sc.eta_2,g]
 ·rfl
theorem amv {sp:Spec} {key:Nat} (hF:sp.F key=nI) (hP:sp.pre key=fun _=>True:=by rfl):SmOk Tryz.prog sp (wQ key):=
 av (s:=wQ key) hF hP (by kernel_rfl) cC (sm0) Tryz.func230 fn0 al4 (.inl rfl) (fun x0 gx0 x1 gx1 x2 gx2 x3 gx3 hp U g=>aln ⟨x0,x1⟩ ⟨gx0,gx1⟩ ⟨x2,x3⟩ ⟨gx2,gx3⟩ U g)
def aeE (key:Nat):Sm:=⟨229,key,[.agg kKn,.agg kKn],[.agg kKn],false⟩
def adD (a:Kn) (b:Kn):List Dt:=[.z ((kor a b).v),.z ((kor a b).m)]
def uz:List Dt->List Dt
 | [.z x0,.z x1,.z x2,.z x3]=>adD ⟨x0,x1⟩ ⟨x2,x3⟩
 | _=>[]
def sT_kor:Tr:=
(.leaf (.cons (.bin .or .u64 (.var 0) (.var 2)) (.cons (.bin .andNot .u64 (.bin .or .u64 (.var 1) (.var 3)) (.bin .or .u64 (.var 0) (.var 2))) .nil)))
def ajJ:Spec:={F:=fun k=>match k with | _=>fun _=>[],pre:=fun k=>match k with | _=>fun _=>True}
theorem aoy:aq tys_KaD [] [] [] [] 200 Tryz.f229 [.agg kKn,.agg kKn] [.agg kKn] false [.int .u64,.int .u64,.int .u64,.int .u64] sT_kor:=⟨by kernel_rfl,by kernel_rfl,by kernel_rfl⟩
theorem aod (a:Kn) (ha:Kn.ok a) (b:Kn) (hb:Kn.ok b) (U:Env) (g:ab U 0 [.int .u64,.int .u64,.int .u64,.int .u64]=[.z a.v,.z a.m,.z b.v,.z b.m]):sT_kor.asks ajJ (fun U e=>e.D U=uz [.z a.v,.z a.m,.z b.v,.z b.m]) U fun _ _=>False:=by
 simp only[ab,varD,thm5,Dt.z.injEq,Dt.l.injEq,b2i_eq_iff,Nat.reduceAdd,and_true] at g
 simp only[sT_kor,ajJ,uz,adD,Tr.asks,ah,okDs,okD,eqs,E.I,E.B,E.L,E.R,E.D,E.vs,E.gs,E.ins,E.sv,E.tn,E.iv,E.zs,E.zr,E.sg,E.tg,E.rg,E.rgs,E.pv,Nat.reduceSub,dI,dB,dL,varD,ab,S1,Nat.reduceAdd,-eq_self,Kn.eta,Sc.eta_r,Sc.eta_k,Sc.eta_2,g]
 ·rfl
theorem aoQ {sp:Spec} {key:Nat} (hF:sp.F key=uz) (hP:sp.pre key=fun _=>True:=by rfl):SmOk Tryz.prog sp (aeE key):=
 av (s:=aeE key) hF hP (by kernel_rfl) cC (sm0) Tryz.func229 fn0 aoy (.inl rfl) (fun x0 gx0 x1 gx1 x2 gx2 x3 gx3 hp U g=>aod ⟨x0,x1⟩ ⟨gx0,gx1⟩ ⟨x2,x3⟩ ⟨gx2,gx3⟩ U g)
def wN (key:Nat):Sm:=⟨232,key,[.agg kKn,.agg kKn],[.agg kKn],false⟩
def wj (a:Kn) (b:Kn):List Dt:=[.z ((kxor a b).v),.z ((kxor a b).m)]
def nF:List Dt->List Dt
 | [.z x0,.z x1,.z x2,.z x3]=>wj ⟨x0,x1⟩ ⟨x2,x3⟩
 | _=>[]
def sT_kxor:Tr:=
(.call 0 (kKn) (.cons (.bin .xor .u64 (.var 0) (.var 2)) (.cons (.bin .or .u64 (.var 1) (.var 3)) .nil)) 4
(.leaf (.vs 4 2 .nil)))
def aek:Spec:={F:=fun k=>match k with | 0=>bG | _=>fun _=>[],pre:=fun k=>match k with | _=>fun _=>True}
theorem alX:aq tys_KaD [dW 0] [] [] [] 200 Tryz.f232 [.agg kKn,.agg kKn] [.agg kKn] false [.int .u64,.int .u64,.int .u64,.int .u64] sT_kxor:=⟨by kernel_rfl,by kernel_rfl,by kernel_rfl⟩
theorem alf (a:Kn) (ha:Kn.ok a) (b:Kn) (hb:Kn.ok b) (U:Env) (g:ab U 0 [.int .u64,.int .u64,.int .u64,.int .u64]=[.z a.v,.z a.m,.z b.v,.z b.m]):sT_kxor.asks aek (fun U e=>e.D U=nF [.z a.v,.z a.m,.z b.v,.z b.m]) U fun _ _=>False:=by
 simp only[ab,varD,thm5,Dt.z.injEq,Dt.l.injEq,b2i_eq_iff,Nat.reduceAdd,and_true] at g
 simp only[sT_kxor,aek,kKn,bG,dU,nF,wj,Tr.asks,ah,okDs,okD,eqs,E.I,E.B,E.L,E.R,E.D,E.vs,E.gs,E.ins,E.sv,E.tn,E.iv,E.zs,E.zr,E.sg,E.tg,E.rg,E.rgs,E.pv,Nat.reduceSub,dI,dB,dL,varD,ab,S1,Nat.reduceAdd,-eq_self,ak,g]
 intro e; (try simp only[e,ak,-eq_self]); clear e
 ·rfl
theorem ams {sp:Spec} {key:Nat} (hF:sp.F key=nF) (hP:sp.pre key=fun _=>True:=by rfl):SmOk Tryz.prog sp (wN key):=
 av (s:=wN key) hF hP (by kernel_rfl) cC (smc (gE rfl) sm0) Tryz.func232 fn0 alX (.inl rfl) (fun x0 gx0 x1 gx1 x2 gx2 x3 gx3 hp U g=>alf ⟨x0,x1⟩ ⟨gx0,gx1⟩ ⟨x2,x3⟩ ⟨gx2,gx3⟩ U g)
def wO (key:Nat):Sm:=⟨233,key,[.agg kKn,.agg kKn],[.agg kKn],false⟩
def wk (a:Kn) (b:Kn):List Dt:=[.z b.v,.z b.m]
def nG:List Dt->List Dt
 | [.z x0,.z x1,.z x2,.z x3]=>wk ⟨x0,x1⟩ ⟨x2,x3⟩
 | _=>[]
def sT_ksec:Tr:=
(.leaf (.vs 2 2 .nil))
def aem:Spec:={F:=fun k=>match k with | _=>fun _=>[],pre:=fun k=>match k with | _=>fun _=>True}
theorem alZ:aq tys_KaD [] [] [] [] 200 Tryz.f233 [.agg kKn,.agg kKn] [.agg kKn] false [.int .u64,.int .u64,.int .u64,.int .u64] sT_ksec:=⟨by kernel_rfl,by kernel_rfl,by kernel_rfl⟩
theorem alh (a:Kn) (ha:Kn.ok a) (b:Kn) (hb:Kn.ok b) (U:Env) (g:ab U 0 [.int .u64,.int .u64,.int .u64,.int .u64]=[.z a.v,.z a.m,.z b.v,.z b.m]):sT_ksec.asks aem (fun U e=>e.D U=nG [.z a.v,.z a.m,.z b.v,.z b.m]) U fun _ _=>False:=by
 simp only[ab,varD,thm5,Dt.z.injEq,Dt.l.injEq,b2i_eq_iff,Nat.reduceAdd,and_true] at g
 simp only[sT_ksec,aem,nG,wk,Tr.asks,ah,okDs,okD,eqs,E.I,E.B,E.L,E.R,E.D,E.vs,E.gs,E.ins,E.sv,E.tn,E.iv,E.zs,E.zr,E.sg,E.tg,E.rg,E.rgs,E.pv,Nat.reduceSub,dI,dB,dL,varD,ab,S1,Nat.reduceAdd,-eq_self,Kn.eta,Sc.eta_r,Sc.eta_k,Sc.eta_2,g]
 ·rfl
theorem amt {sp:Spec} {key:Nat} (hF:sp.F key=nG) (hP:sp.pre key=fun _=>True:=by rfl):SmOk Tryz.prog sp (wO key):=
 av (s:=wO key) hF hP (by kernel_rfl) cC (sm0) Tryz.func233 fn0 alZ (.inl rfl) (fun x0 gx0 x1 gx1 x2 gx2 x3 gx3 hp U g=>alh ⟨x0,x1⟩ ⟨gx0,gx1⟩ ⟨x2,x3⟩ ⟨gx2,gx3⟩ U g)
def aeF (key:Nat):Sm:=⟨189,key,[.one (.int .i8),.one (.int .i8),.agg kKn,.agg kKn],[.agg kKn],false⟩
def adE (op:Int) (l:Int) (a:Kn) (b:Kn):List Dt:=[.z ((kdo op l a b).v),.z ((kdo op l a b).m)]
def uA:List Dt->List Dt
 | [.z x0,.z x1,.z x2,.z x3,.z x4,.z x5]=>adE x0 x1 ⟨x2,x3⟩ ⟨x4,x5⟩
 | _=>[]
def sT_kdo:Tr:=
(.call 0 [.bool] (.vs 2 2 .nil) 6
(.br (.bvar 6)
(.call 0 [.bool] (.vs 4 2 .nil) 7
(.br (.bvar 7)
(.br (.lt (.var 0) (.lit 0))
(.call 1 (kKn) .nil 8
(.leaf (.vs 8 2 .nil)))
(.br (.lt (.lit 12) (.var 0))
(.call 1 (kKn) .nil 8
(.leaf (.vs 8 2 .nil)))
(.br (.eq (.var 1) (.lit 32))
(.call 2 (kKn) (.vs 2 2 (.cons (.var 1) .nil)) 8
(.call 2 (kKn) (.vs 4 2 (.cons (.var 1) .nil)) 10
(.br (.eq (.bin .or .u64 (.var 9) (.var 11)) (.lit 0))
(.call 3 [.int .u64,.int .i64] (.vs 0 2 (.cons (.var 8) (.cons (.var 10) .nil))) 12
(.call 4 (kKn) (.cons (.var 12) .nil) 14
(.leaf (.vs 14 2 .nil))))
(.call 1 (kKn) .nil 12
(.br (.eq (.var 0) (.lit 6))
(.br (.eq (.bin .and .u64 (.var 11) (.bin .sub .u64 (.conv .u64 (.var 1)) (.lit 1))) (.lit 0))
(.call 3 [.int .u64,.int .i64] (.vs 0 2 (.cons (.var 8) (.cons (.bin .and .u64 (.var 10) (.bin .sub .u64 (.conv .u64 (.var 1)) (.lit 1))) .nil))) 14
(.call 3 [.int .u64,.int .i64] (.vs 0 2 (.cons (.var 9) (.cons (.bin .and .u64 (.var 10) (.bin .sub .u64 (.conv .u64 (.var 1)) (.lit 1))) .nil))) 16
(.call 5 (kKn) (.cons (.var 14) (.cons (.var 16) .nil)) 18
(.call 2 (kKn) (.vs 18 2 (.cons (.var 1) .nil)) 20
(.leaf (.vs 20 2 .nil))))))
(.call 2 (kKn) (.vs 12 2 (.cons (.var 1) .nil)) 14
(.leaf (.vs 14 2 .nil))))
(.br (.eq (.var 0) (.lit 7))
(.br (.eq (.bin .and .u64 (.var 11) (.bin .sub .u64 (.conv .u64 (.var 1)) (.lit 1))) (.lit 0))
(.call 3 [.int .u64,.int .i64] (.vs 0 2 (.cons (.var 8) (.cons (.bin .and .u64 (.var 10) (.bin .sub .u64 (.conv .u64 (.var 1)) (.lit 1))) .nil))) 14
(.call 3 [.int .u64,.int .i64] (.vs 0 2 (.cons (.var 9) (.cons (.bin .and .u64 (.var 10) (.bin .sub .u64 (.conv .u64 (.var 1)) (.lit 1))) .nil))) 16
(.call 5 (kKn) (.cons (.var 14) (.cons (.var 16) .nil)) 18
(.call 2 (kKn) (.vs 18 2 (.cons (.var 1) .nil)) 20
(.leaf (.vs 20 2 .nil))))))
(.call 2 (kKn) (.vs 12 2 (.cons (.var 1) .nil)) 14
(.leaf (.vs 14 2 .nil))))
(.br (.eq (.var 0) (.lit 12))
(.br (.eq (.bin .and .u64 (.var 11) (.bin .sub .u64 (.conv .u64 (.var 1)) (.lit 1))) (.lit 0))
(.call 3 [.int .u64,.int .i64] (.vs 0 2 (.cons (.var 8) (.cons (.bin .and .u64 (.var 10) (.bin .sub .u64 (.conv .u64 (.var 1)) (.lit 1))) .nil))) 14
(.call 3 [.int .u64,.int .i64] (.vs 0 2 (.cons (.var 9) (.cons (.bin .and .u64 (.var 10) (.bin .sub .u64 (.conv .u64 (.var 1)) (.lit 1))) .nil))) 16
(.call 5 (kKn) (.cons (.var 14) (.cons (.var 16) .nil)) 18
(.call 2 (kKn) (.vs 18 2 (.cons (.var 1) .nil)) 20
(.leaf (.vs 20 2 .nil))))))
(.call 2 (kKn) (.vs 12 2 (.cons (.var 1) .nil)) 14
(.leaf (.vs 14 2 .nil))))
(.br (.eq (.var 0) (.lit 0))
(.call 6 (kKn) (.vs 8 4 .nil) 14
(.call 2 (kKn) (.vs 14 2 (.cons (.var 1) .nil)) 16
(.leaf (.vs 16 2 .nil))))
(.br (.eq (.var 0) (.lit 1))
(.call 7 (kKn) (.vs 8 4 .nil) 14
(.call 2 (kKn) (.vs 14 2 (.cons (.var 1) .nil)) 16
(.leaf (.vs 16 2 .nil))))
(.br (.eq (.var 0) (.lit 2))
(.call 2 (kKn) (.vs 12 2 (.cons (.var 1) .nil)) 14
(.leaf (.vs 14 2 .nil)))
(.br (.eq (.var 0) (.lit 3))
(.call 2 (kKn) (.vs 12 2 (.cons (.var 1) .nil)) 14
(.leaf (.vs 14 2 .nil)))
(.br (.eq (.var 0) (.lit 4))
(.call 8 (kKn) (.vs 8 4 .nil) 14
(.call 2 (kKn) (.vs 14 2 (.cons (.var 1) .nil)) 16
(.leaf (.vs 16 2 .nil))))
(.br (.eq (.var 0) (.lit 5))
(.call 9 (kKn) (.vs 8 4 .nil) 14
(.call 2 (kKn) (.vs 14 2 (.cons (.var 1) .nil)) 16
(.leaf (.vs 16 2 .nil))))
(.br (.eq (.var 0) (.lit 8))
(.call 10 (kKn) (.vs 8 4 .nil) 14
(.call 2 (kKn) (.vs 14 2 (.cons (.var 1) .nil)) 16
(.leaf (.vs 16 2 .nil))))
(.br (.eq (.var 0) (.lit 9))
(.call 2 (kKn) (.vs 12 2 (.cons (.var 1) .nil)) 14
(.leaf (.vs 14 2 .nil)))
(.br (.eq (.var 0) (.lit 10))
(.call 11 (kKn) (.vs 8 4 .nil) 14
(.call 2 (kKn) (.vs 14 2 (.cons (.var 1) .nil)) 16
(.leaf (.vs 16 2 .nil))))
(.br (.eq (.var 0) (.lit 11))
(.call 12 (kKn) (.vs 8 4 .nil) 14
(.call 2 (kKn) (.vs 14 2 (.cons (.var 1) .nil)) 16
(.leaf (.vs 16 2 .nil))))
.panic)))))))))))))))))
(.br (.eq (.var 1) (.lit 64))
(.call 2 (kKn) (.vs 2 2 (.cons (.var 1) .nil)) 8
(.call 2 (kKn) (.vs 4 2 (.cons (.var 1) .nil)) 10
(.br (.eq (.bin .or .u64 (.var 9) (.var 11)) (.lit 0))
(.call 3 [.int .u64,.int .i64] (.vs 0 2 (.cons (.var 8) (.cons (.var 10) .nil))) 12
(.call 4 (kKn) (.cons (.var 12) .nil) 14
(.leaf (.vs 14 2 .nil))))
(.call 1 (kKn) .nil 12
(.br (.eq (.var 0) (.lit 6))
(.br (.eq (.bin .and .u64 (.var 11) (.bin .sub .u64 (.conv .u64 (.var 1)) (.lit 1))) (.lit 0))
(.call 3 [.int .u64,.int .i64] (.vs 0 2 (.cons (.var 8) (.cons (.bin .and .u64 (.var 10) (.bin .sub .u64 (.conv .u64 (.var 1)) (.lit 1))) .nil))) 14
(.call 3 [.int .u64,.int .i64] (.vs 0 2 (.cons (.var 9) (.cons (.bin .and .u64 (.var 10) (.bin .sub .u64 (.conv .u64 (.var 1)) (.lit 1))) .nil))) 16
(.call 5 (kKn) (.cons (.var 14) (.cons (.var 16) .nil)) 18
(.call 2 (kKn) (.vs 18 2 (.cons (.var 1) .nil)) 20
(.leaf (.vs 20 2 .nil))))))
(.call 2 (kKn) (.vs 12 2 (.cons (.var 1) .nil)) 14
(.leaf (.vs 14 2 .nil))))
(.br (.eq (.var 0) (.lit 7))
(.br (.eq (.bin .and .u64 (.var 11) (.bin .sub .u64 (.conv .u64 (.var 1)) (.lit 1))) (.lit 0))
(.call 3 [.int .u64,.int .i64] (.vs 0 2 (.cons (.var 8) (.cons (.bin .and .u64 (.var 10) (.bin .sub .u64 (.conv .u64 (.var 1)) (.lit 1))) .nil))) 14
(.call 3 [.int .u64,.int .i64] (.vs 0 2 (.cons (.var 9) (.cons (.bin .and .u64 (.var 10) (.bin .sub .u64 (.conv .u64 (.var 1)) (.lit 1))) .nil))) 16
(.call 5 (kKn) (.cons (.var 14) (.cons (.var 16) .nil)) 18
(.call 2 (kKn) (.vs 18 2 (.cons (.var 1) .nil)) 20
(.leaf (.vs 20 2 .nil))))))
(.call 2 (kKn) (.vs 12 2 (.cons (.var 1) .nil)) 14
(.leaf (.vs 14 2 .nil))))
(.br (.eq (.var 0) (.lit 12))
(.br (.eq (.bin .and .u64 (.var 11) (.bin .sub .u64 (.conv .u64 (.var 1)) (.lit 1))) (.lit 0))
(.call 3 [.int .u64,.int .i64] (.vs 0 2 (.cons (.var 8) (.cons (.bin .and .u64 (.var 10) (.bin .sub .u64 (.conv .u64 (.var 1)) (.lit 1))) .nil))) 14
(.call 3 [.int .u64,.int .i64] (.vs 0 2 (.cons (.var 9) (.cons (.bin .and .u64 (.var 10) (.bin .sub .u64 (.conv .u64 (.var 1)) (.lit 1))) .nil))) 16
(.call 5 (kKn) (.cons (.var 14) (.cons (.var 16) .nil)) 18
(.call 2 (kKn) (.vs 18 2 (.cons (.var 1) .nil)) 20
(.leaf (.vs 20 2 .nil))))))
(.call 2 (kKn) (.vs 12 2 (.cons (.var 1) .nil)) 14
(.leaf (.vs 14 2 .nil))))
(.br (.eq (.var 0) (.lit 0))
(.call 6 (kKn) (.vs 8 4 .nil) 14
(.call 2 (kKn) (.vs 14 2 (.cons (.var 1) .nil)) 16
(.leaf (.vs 16 2 .nil))))
(.br (.eq (.var 0) (.lit 1))
(.call 7 (kKn) (.vs 8 4 .nil) 14
(.call 2 (kKn) (.vs 14 2 (.cons (.var 1) .nil)) 16
(.leaf (.vs 16 2 .nil))))
(.br (.eq (.var 0) (.lit 2))
(.call 2 (kKn) (.vs 12 2 (.cons (.var 1) .nil)) 14
(.leaf (.vs 14 2 .nil)))
(.br (.eq (.var 0) (.lit 3))
(.call 2 (kKn) (.vs 12 2 (.cons (.var 1) .nil)) 14
(.leaf (.vs 14 2 .nil)))
(.br (.eq (.var 0) (.lit 4))
(.call 8 (kKn) (.vs 8 4 .nil) 14
(.call 2 (kKn) (.vs 14 2 (.cons (.var 1) .nil)) 16
(.leaf (.vs 16 2 .nil))))
(.br (.eq (.var 0) (.lit 5))
(.call 9 (kKn) (.vs 8 4 .nil) 14
(.call 2 (kKn) (.vs 14 2 (.cons (.var 1) .nil)) 16
(.leaf (.vs 16 2 .nil))))
(.br (.eq (.var 0) (.lit 8))
(.call 10 (kKn) (.vs 8 4 .nil) 14
(.call 2 (kKn) (.vs 14 2 (.cons (.var 1) .nil)) 16
(.leaf (.vs 16 2 .nil))))
(.br (.eq (.var 0) (.lit 9))
(.call 2 (kKn) (.vs 12 2 (.cons (.var 1) .nil)) 14
(.leaf (.vs 14 2 .nil)))
(.br (.eq (.var 0) (.lit 10))
(.call 11 (kKn) (.vs 8 4 .nil) 14
(.call 2 (kKn) (.vs 14 2 (.cons (.var 1) .nil)) 16
(.leaf (.vs 16 2 .nil))))
(.br (.eq (.var 0) (.lit 11))
(.call 12 (kKn) (.vs 8 4 .nil) 14
(.call 2 (kKn) (.vs 14 2 (.cons (.var 1) .nil)) 16
(.leaf (.vs 16 2 .nil))))
.panic)))))))))))))))))
(.call 1 (kKn) .nil 8
(.leaf (.vs 8 2 .nil)))))))
(.call 1 (kKn) .nil 8
(.leaf (.vs 8 2 .nil)))))
(.call 1 (kKn) .nil 7
(.leaf (.vs 7 2 .nil)))))
def ajK:Spec:={F:=fun k=>match k with | 0=>cO | 1=>cP | 2=>iG | 3=>kA | 4=>ff | 5=>bG | 6=>nJ | 7=>iF | 8=>uz | 9=>nI | 10=>nH | 11=>nF | 12=>nG | _=>fun _=>[],pre:=fun k=>match k with | _=>fun _=>True}
theorem aoz:aq tys_KaD [iu 0,iw 1,rt 2,nj 3,nf 4,dW 5,wR 6,rq 7,aeE 8,wQ 9,wP 10,wN 11,wO 12] [] [] [] 200 Tryz.f189 [.one (.int .i8),.one (.int .i8),.agg kKn,.agg kKn] [.agg kKn] false [.int .i8,.int .i8,.int .u64,.int .u64,.int .u64,.int .u64] sT_kdo:=⟨by kernel_rfl,by kernel_rfl,by kernel_rfl⟩
theorem aoe (op:Int) (hop:inK .i8 op=true) (l:Int) (hl:inK .i8 l=true) (a:Kn) (ha:Kn.ok a) (b:Kn) (hb:Kn.ok b) (U:Env) (g:ab U 0 [.int .i8,.int .i8,.int .u64,.int .u64,.int .u64,.int .u64]=[.z op,.z l,.z a.v,.z a.m,.z b.v,.z b.m]):sT_kdo.asks ajK (fun U e=>e.D U=uA [.z op,.z l,.z a.v,.z a.m,.z b.v,.z b.m]) U fun _ _=>False:=by
 simp only[ab,varD,thm5,Dt.z.injEq,Dt.l.injEq,b2i_eq_iff,Nat.reduceAdd,and_true] at g
 simp only[sT_kdo,ajK,kKn,cO,cP,iG,kA,ff,bG,nJ,iF,uz,nI,nH,nF,nG,ir,qH,mL,mG,dU,wo,qG,adD,wm,wl,wj,wk,uA,adE,Tr.asks,ah,okDs,okD,eqs,E.I,E.B,E.L,E.R,E.D,E.vs,E.gs,E.ins,E.sv,E.tn,E.iv,E.zs,E.zr,E.sg,E.tg,E.rg,E.rgs,E.pv,Nat.reduceSub,dI,dB,dL,varD,ab,S1,Nat.reduceAdd,-eq_self,ak,g]
 intro e; (try simp only[e,ak,-eq_self]); clear e
 constructor<;>intro c0
 intro e; (try simp only[e,ak,-eq_self]); clear e
 constructor<;>intro c1
 constructor<;>intro c2
 intro e; (try simp only[e,ak,-eq_self]); clear e
 ·exact aR (vd (aqy c2))
 constructor<;>intro c3
 intro e; (try simp only[e,ak,-eq_self]); clear e
 ·exact aR (vd (aqz c3))
 constructor<;>intro c4
 intro e; (try simp only[e,ak,-eq_self]); clear e
 intro e; (try simp only[e,ak,-eq_self]); clear e
 constructor<;>intro c5
 intro e; (try simp only[e,ak,-eq_self]); clear e
 intro e; (try simp only[e,ak,-eq_self]); clear e
 ·(obtain rfl:=eqz c4; have hg:=cd c0 c1 c2 c3 (l:=32) rfl; exact aR (aj4 hg c5))
 intro e; (try simp only[e,ak,-eq_self]); clear e
 constructor<;>intro c6
 constructor<;>intro c7
 intro e; (try simp only[e,ak,-eq_self]); clear e
 intro e; (try simp only[e,ak,-eq_self]); clear e
 intro e; (try simp only[e,ak,-eq_self]); clear e
 intro e; (try simp only[e,ak,-eq_self]); clear e
 ·(obtain rfl:=eqz c4; have hg:=cd c0 c1 c2 c3 (l:=32) rfl; obtain rfl:=eqz c6; exact aR (cn hg c5 (aa6 (by decide) c7)))
 intro e; (try simp only[e,ak,-eq_self]); clear e
 ·(obtain rfl:=eqz c4; have hg:=cd c0 c1 c2 c3 (l:=32) rfl; obtain rfl:=eqz c6; exact aR (cn hg c5 (aa7 (by decide) c7)))
 constructor<;>intro c8
 constructor<;>intro c9
 intro e; (try simp only[e,ak,-eq_self]); clear e
 intro e; (try simp only[e,ak,-eq_self]); clear e
 intro e; (try simp only[e,ak,-eq_self]); clear e
 intro e; (try simp only[e,ak,-eq_self]); clear e
 ·(obtain rfl:=eqz c4; have hg:=cd c0 c1 c2 c3 (l:=32) rfl; obtain rfl:=eqz c8; exact aR (cn hg c5 (aa6 (by decide) c9)))
 intro e; (try simp only[e,ak,-eq_self]); clear e
 ·(obtain rfl:=eqz c4; have hg:=cd c0 c1 c2 c3 (l:=32) rfl; obtain rfl:=eqz c8; exact aR (cn hg c5 (aa7 (by decide) c9)))
 constructor<;>intro c10
 constructor<;>intro c11
 intro e; (try simp only[e,ak,-eq_self]); clear e
 intro e; (try simp only[e,ak,-eq_self]); clear e
 intro e; (try simp only[e,ak,-eq_self]); clear e
 intro e; (try simp only[e,ak,-eq_self]); clear e
 ·(obtain rfl:=eqz c4; have hg:=cd c0 c1 c2 c3 (l:=32) rfl; obtain rfl:=eqz c10; exact aR (cn hg c5 (aa6 (by decide) c11)))
 intro e; (try simp only[e,ak,-eq_self]); clear e
 ·(obtain rfl:=eqz c4; have hg:=cd c0 c1 c2 c3 (l:=32) rfl; obtain rfl:=eqz c10; exact aR (cn hg c5 (aa7 (by decide) c11)))
 constructor<;>intro c12
 intro e; (try simp only[e,ak,-eq_self]); clear e
 intro e; (try simp only[e,ak,-eq_self]); clear e
 ·(obtain rfl:=eqz c4; have hg:=cd c0 c1 c2 c3 (l:=32) rfl; obtain rfl:=eqz c12; exact aR (cn hg c5 rfl))
 constructor<;>intro c13
 intro e; (try simp only[e,ak,-eq_self]); clear e
 intro e; (try simp only[e,ak,-eq_self]); clear e
 ·(obtain rfl:=eqz c4; have hg:=cd c0 c1 c2 c3 (l:=32) rfl; obtain rfl:=eqz c13; exact aR (cn hg c5 rfl))
 constructor<;>intro c14
 intro e; (try simp only[e,ak,-eq_self]); clear e
 ·(obtain rfl:=eqz c4; have hg:=cd c0 c1 c2 c3 (l:=32) rfl; obtain rfl:=eqz c14; exact aR (cn hg c5 rfl))
 constructor<;>intro c15
 intro e; (try simp only[e,ak,-eq_self]); clear e
 ·(obtain rfl:=eqz c4; have hg:=cd c0 c1 c2 c3 (l:=32) rfl; obtain rfl:=eqz c15; exact aR (cn hg c5 rfl))
 constructor<;>intro c16
 intro e; (try simp only[e,ak,-eq_self]); clear e
 intro e; (try simp only[e,ak,-eq_self]); clear e
 ·(obtain rfl:=eqz c4; have hg:=cd c0 c1 c2 c3 (l:=32) rfl; obtain rfl:=eqz c16; exact aR (cn hg c5 rfl))
 constructor<;>intro c17
 intro e; (try simp only[e,ak,-eq_self]); clear e
 intro e; (try simp only[e,ak,-eq_self]); clear e
 ·(obtain rfl:=eqz c4; have hg:=cd c0 c1 c2 c3 (l:=32) rfl; obtain rfl:=eqz c17; exact aR (cn hg c5 rfl))
 constructor<;>intro c18
 intro e; (try simp only[e,ak,-eq_self]); clear e
 intro e; (try simp only[e,ak,-eq_self]); clear e
 ·(obtain rfl:=eqz c4; have hg:=cd c0 c1 c2 c3 (l:=32) rfl; obtain rfl:=eqz c18; exact aR (cn hg c5 rfl))
 constructor<;>intro c19
 intro e; (try simp only[e,ak,-eq_self]); clear e
 ·(obtain rfl:=eqz c4; have hg:=cd c0 c1 c2 c3 (l:=32) rfl; obtain rfl:=eqz c19; exact aR (cn hg c5 rfl))
 constructor<;>intro c20
 intro e; (try simp only[e,ak,-eq_self]); clear e
 intro e; (try simp only[e,ak,-eq_self]); clear e
 ·(obtain rfl:=eqz c4; have hg:=cd c0 c1 c2 c3 (l:=32) rfl; obtain rfl:=eqz c20; exact aR (cn hg c5 rfl))
 constructor<;>intro c21
 intro e; (try simp only[e,ak,-eq_self]); clear e
 intro e; (try simp only[e,ak,-eq_self]); clear e
 ·(obtain rfl:=eqz c4; have hg:=cd c0 c1 c2 c3 (l:=32) rfl; obtain rfl:=eqz c21; exact aR (cn hg c5 rfl))
 ·(have h2:=thm2 c2; have h3:=thm2 c3; have h10:=nez c6; have h11:=nez c8; have h12:=nez c10; have h13:=nez c12; have h14:=nez c13; have h15:=nez c14; have h16:=nez c15; have h17:=nez c16; have h18:=nez c17; have h19:=nez c18; have h20:=nez c19; have h21:=nez c20; have h22:=nez c21; omega)
 constructor<;>intro c22
 intro e; (try simp only[e,ak,-eq_self]); clear e
 intro e; (try simp only[e,ak,-eq_self]); clear e
 constructor<;>intro c23
 intro e; (try simp only[e,ak,-eq_self]); clear e
 intro e; (try simp only[e,ak,-eq_self]); clear e
 ·(obtain rfl:=eqz c22; have hg:=cd c0 c1 c2 c3 (l:=64) rfl; exact aR (aj4 hg c23))
 intro e; (try simp only[e,ak,-eq_self]); clear e
 constructor<;>intro c24
 constructor<;>intro c25
 intro e; (try simp only[e,ak,-eq_self]); clear e
 intro e; (try simp only[e,ak,-eq_self]); clear e
 intro e; (try simp only[e,ak,-eq_self]); clear e
 intro e; (try simp only[e,ak,-eq_self]); clear e
 ·(obtain rfl:=eqz c22; have hg:=cd c0 c1 c2 c3 (l:=64) rfl; obtain rfl:=eqz c24; exact aR (cn hg c23 (aa6 (by decide) c25)))
 intro e; (try simp only[e,ak,-eq_self]); clear e
 ·(obtain rfl:=eqz c22; have hg:=cd c0 c1 c2 c3 (l:=64) rfl; obtain rfl:=eqz c24; exact aR (cn hg c23 (aa7 (by decide) c25)))
 constructor<;>intro c26
 constructor<;>intro c27
 intro e; (try simp only[e,ak,-eq_self]); clear e
 intro e; (try simp only[e,ak,-eq_self]); clear e
 intro e; (try simp only[e,ak,-eq_self]); clear e
 intro e; (try simp only[e,ak,-eq_self]); clear e
 ·(obtain rfl:=eqz c22; have hg:=cd c0 c1 c2 c3 (l:=64) rfl; obtain rfl:=eqz c26; exact aR (cn hg c23 (aa6 (by decide) c27)))
 intro e; (try simp only[e,ak,-eq_self]); clear e
 ·(obtain rfl:=eqz c22; have hg:=cd c0 c1 c2 c3 (l:=64) rfl; obtain rfl:=eqz c26; exact aR (cn hg c23 (aa7 (by decide) c27)))
 constructor<;>intro c28
 constructor<;>intro c29
 intro e; (try simp only[e,ak,-eq_self]); clear e
 intro e; (try simp only[e,ak,-eq_self]); clear e
 intro e; (try simp only[e,ak,-eq_self]); clear e
 intro e; (try simp only[e,ak,-eq_self]); clear e
 ·(obtain rfl:=eqz c22; have hg:=cd c0 c1 c2 c3 (l:=64) rfl; obtain rfl:=eqz c28; exact aR (cn hg c23 (aa6 (by decide) c29)))
 intro e; (try simp only[e,ak,-eq_self]); clear e
 ·(obtain rfl:=eqz c22; have hg:=cd c0 c1 c2 c3 (l:=64) rfl; obtain rfl:=eqz c28; exact aR (cn hg c23 (aa7 (by decide) c29)))
 constructor<;>intro c30
 intro e; (try simp only[e,ak,-eq_self]); clear e
 intro e; (try simp only[e,ak,-eq_self]); clear e
 ·(obtain rfl:=eqz c22; have hg:=cd c0 c1 c2 c3 (l:=64) rfl; obtain rfl:=eqz c30; exact aR (cn hg c23 rfl))
 constructor<;>intro c31
 intro e; (try simp only[e,ak,-eq_self]); clear e
 intro e; (try simp only[e,ak,-eq_self]); clear e
 ·(obtain rfl:=eqz c22; have hg:=cd c0 c1 c2 c3 (l:=64) rfl; obtain rfl:=eqz c31; exact aR (cn hg c23 rfl))
 constructor<;>intro c32
 intro e; (try simp only[e,ak,-eq_self]); clear e
 ·(obtain rfl:=eqz c22; have hg:=cd c0 c1 c2 c3 (l:=64) rfl; obtain rfl:=eqz c32; exact aR (cn hg c23 rfl))
 constructor<;>intro c33
 intro e; (try simp only[e,ak,-eq_self]); clear e
 ·(obtain rfl:=eqz c22; have hg:=cd c0 c1 c2 c3 (l:=64) rfl; obtain rfl:=eqz c33; exact aR (cn hg c23 rfl))
 constructor<;>intro c34
 intro e; (try simp only[e,ak,-eq_self]); clear e
 intro e; (try simp only[e,ak,-eq_self]); clear e
 ·(obtain rfl:=eqz c22; have hg:=cd c0 c1 c2 c3 (l:=64) rfl; obtain rfl:=eqz c34; exact aR (cn hg c23 rfl))
 constructor<;>intro c35
 intro e; (try simp only[e,ak,-eq_self]); clear e
 intro e; (try simp only[e,ak,-eq_self]); clear e
 ·(obtain rfl:=eqz c22; have hg:=cd c0 c1 c2 c3 (l:=64) rfl; obtain rfl:=eqz c35; exact aR (cn hg c23 rfl))
 constructor<;>intro c36
 intro e; (try simp only[e,ak,-eq_self]); clear e
 intro e; (try simp only[e,ak,-eq_self]); clear e
 ·(obtain rfl:=eqz c22; have hg:=cd c0 c1 c2 c3 (l:=64) rfl; obtain rfl:=eqz c36; exact aR (cn hg c23 rfl))
 constructor<;>intro c37
 intro e; (try simp only[e,ak,-eq_self]); clear e
 ·(obtain rfl:=eqz c22; have hg:=cd c0 c1 c2 c3 (l:=64) rfl; obtain rfl:=eqz c37; exact aR (cn hg c23 rfl))
 constructor<;>intro c38
 intro e; (try simp only[e,ak,-eq_self]); clear e
 intro e; (try simp only[e,ak,-eq_self]); clear e
 ·(obtain rfl:=eqz c22; have hg:=cd c0 c1 c2 c3 (l:=64) rfl; obtain rfl:=eqz c38; exact aR (cn hg c23 rfl))
 constructor<;>intro c39
 intro e; (try simp only[e,ak,-eq_self]); clear e
 intro e; (try simp only[e,ak,-eq_self]); clear e
 ·(obtain rfl:=eqz c22; have hg:=cd c0 c1 c2 c3 (l:=64) rfl; obtain rfl:=eqz c39; exact aR (cn hg c23 rfl))
 ·(have h2:=thm2 c2; have h3:=thm2 c3; have h10:=nez c24; have h11:=nez c26; have h12:=nez c28; have h13:=nez c30; have h14:=nez c31; have h15:=nez c32; have h16:=nez c33; have h17:=nez c34; have h18:=nez c35; have h19:=nez c36; have h20:=nez c37; have h21:=nez c38; have h22:=nez c39; omega)
 intro e; (try simp only[e,ak,-eq_self]); clear e
 ·exact aR (vd (kd_w c4 c22))
 intro e; (try simp only[e,ak,-eq_self]); clear e
 ·exact aR (vd (kd_b c1))
 intro e; (try simp only[e,ak,-eq_self]); clear e
 ·exact aR (vd (kd_a c0))
theorem aoR {sp:Spec} {key:Nat} (hF:sp.F key=uA) (hP:sp.pre key=fun _=>True:=by rfl):SmOk Tryz.prog sp (aeF key):=
 av (s:=aeF key) hF hP (by kernel_rfl) cC (smc (nn rfl) (smc (np rfl) (smc (ae3 rfl) (smc (amB rfl) (smc (wY rfl) (smc (gE rfl) (smc (amw rfl) (smc (ae2 rfl) (smc (aoQ rfl) (smc (amv rfl) (smc (amu rfl) (smc (ams rfl) (smc (amt rfl) sm0))))))))))))) Tryz.func189 fn0 aoz (.inl rfl) (fun x0 gx0 x1 gx1 x2 gx2 x3 gx3 x4 gx4 x5 gx5 hp U g=>aoe x0 gx0 x1 gx1 ⟨x2,x3⟩ ⟨gx2,gx3⟩ ⟨x4,x5⟩ ⟨gx4,gx5⟩ U g)
end Go.Proofs.YtfkhblmeioiciaaGreatDoor
