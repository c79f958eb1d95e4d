import Derived.Test.YtfkhblmeioiciaaGreatDoorVaA
import Derived.Test.YtfkhblmeioiciaaGreatDoorProg
import Derived.Laws.Externs
set_option linter.unusedVariables false
set_option linter.unusedSimpArgs false
namespace Go.Proofs.YtfkhblmeioiciaaGreatDoor
open Go.RowKit Go.ChangeShapes Go.WideShapes
def tys_KaD:List (Nat×TI):=[(37,⟨false,1,[.int .i8 (.lit 0)],[],none,some .i8,false,false,none,1,false,none,false,0⟩),
 (42,⟨false,1,[.int .u64 (.lit 0)],[],none,some .u64,false,false,none,8,false,none,false,0⟩),
 (46,⟨true,2,[.int .u64 (.lit 0),.int .u64 (.lit 0)],[(0,42),(1,42)],none,none,false,false,none,16,false,none,false,0⟩),
 (196,⟨false,1,[.nilf],[],none,none,false,false,none,8,true,none,false,0⟩),
 (245,⟨true,13,[.nilf,.nilf,.nilf,.nilf,.nilf,.nilf,.nilf,.nilf,.nilf,.nilf,.nilf,.nilf,.nilf],[],some (13,196),none,false,false,none,104,false,none,false,0⟩)]
set_option maxRecDepth 100000 in
theorem zY:(tys_KaD.all fun p=>ckTI Tryz.prog p.1 p.2)=true:=by kernel_rfl
theorem qC:(tys_KaD.all fun p=>!p.2.eqok)=true:=by kernel_rfl
theorem zH:(tys_KaD.all fun p=>!p.2.keyok)=true:=by kernel_rfl
theorem bW:∀t i,(t,i)∈tys_KaD→TIok Tryz.prog t i:=by
 intro t i h
 refine bI (cM (f:=ckTI Tryz.prog) zY h) (fun he=> ?_) (fun he=> ?_) (fun he=> ?_)
 ·have h1:=List.all_eq_true.1 qC (t,i) h
  simp[he] at h1
 ·have h1:=List.all_eq_true.1 qC (t,i) h
  simp[he] at h1
 ·have h1:=List.all_eq_true.1 zH (t,i) h
  simp[he] at h1
def ph (key:Nat):Sm:=⟨243,key,[.one (.int .u64),.one (.int .u64),.agg kKn,.agg kKn],[.agg kKn],false⟩
def oO (v:Int) (x:Int) (a:Kn) (b:Kn):List Dt:=[.z ((gP v (bits .or .u64 (bits .or .u64 (bits .xor .u64 v x) a.m) b.m)).v),.z ((gP v (bits .or .u64 (bits .or .u64 (bits .xor .u64 v x) a.m) b.m)).m)]
def iF:List Dt→List Dt
 | [.z x0,.z x1,.z x2,.z x3,.z x4,.z x5]=>oO x0 x1 ⟨x2,x3⟩ ⟨x4,x5⟩
 | _=>[]
def sT_kcarr:Tr:=
(.call 0 (kKn) (.cons (.var 0) (.cons (.bin .or .u64 (.bin .or .u64 (.bin .xor .u64 (.var 0) (.var 1)) (.var 3)) (.var 5)) .nil)) 6
(.leaf (.vs 6 2 .nil)))
def vI:Spec:={F:=fun k=>match k with | 0=>bD | _=>fun _=>[],pre:=fun k=>match k with | _=>fun _=>True}
set_option maxRecDepth 100000 in
theorem aey:am tys_KaD [ej 0] [] [] [] 200 Tryz.f243 [.one (.int .u64),.one (.int .u64),.agg kKn,.agg kKn] [.agg kKn] false [.int .u64,.int .u64,.int .u64,.int .u64,.int .u64,.int .u64] sT_kcarr:=⟨by kernel_rfl,by kernel_rfl,by kernel_rfl⟩
set_option maxRecDepth 100000 in
set_option maxHeartbeats 8000000 in
theorem aee (v:Int) (hv:inK .u64 v=true) (x:Int) (hx:inK .u64 x=true) (a:Kn) (ha:Kn.ok a) (b:Kn) (hb:Kn.ok b) (ρ:Env) (g:af ρ 0 [.int .u64,.int .u64,.int .u64,.int .u64,.int .u64,.int .u64]=[.z v,.z x,.z a.v,.z a.m,.z b.v,.z b.m]):sT_kcarr.asks vI (fun ρ e=>e.D ρ=iF [.z v,.z x,.z a.v,.z a.m,.z b.v,.z b.m]) ρ fun _ _=>False:=by
 simp only[af,varD,List.cons.injEq,Dt.z.injEq,Dt.l.injEq,b2i_eq_iff,Nat.reduceAdd,and_true] at g
 simp only[sT_kcarr,vI,kKn,bD,eg,iF,oO,Tr.asks,ai,okDs,okD,eqs,E.I,E.B,E.L,E.R,E.D,E.vs,E.gs,E.ins,E.sv,E.tn,E.iv,E.zs,E.pv,Nat.reduceSub,dI,dB,dL,varD,af,S1,Nat.reduceAdd,-eq_self,Kn.eta,Pi.eta,Pu.eta,Rg.eta,Sc.eta,Sc.eta_r,Sc.eta_k,Sc.eta_2,g]
 intro e; (try simp only[e,Kn.eta,Pi.eta,Pu.eta,Rg.eta,Sc.eta,Sc.eta_r,Sc.eta_k,Sc.eta_2,-eq_self]); clear e
 ·rfl
theorem aeP {sp:Spec} {key:Nat} (hF:sp.F key=iF) (hP:sp.pre key=fun _=>True:=by rfl):SmOk Tryz.prog sp (ph key):=
 an (s:=ph key) hF hP (by kernel_rfl) bW (smc (ip rfl) sm0) Tryz.func243 fn0 aey (.inl rfl) (fun x0 gx0 x1 gx1 x2 gx2 x3 gx3 x4 gx4 x5 gx5 hp ρ g=>aee x0 gx0 x1 gx1 ⟨x2,x3⟩ ⟨gx2,gx3⟩ ⟨x4,x5⟩ ⟨gx4,gx5⟩ ρ g)
def tO (key:Nat):Sm:=⟨227,key,[.agg kKn,.agg kKn],[.agg kKn],false⟩
def tp (a:Kn) (b:Kn):List Dt:=[.z ((kadd a b).v),.z ((kadd a b).m)]
def mc:List Dt→List Dt
 | [.z x0,.z x1,.z x2,.z x3]=>tp ⟨x0,x1⟩ ⟨x2,x3⟩
 | _=>[]
def sT_kadd:Tr:=
(.call 0 (kKn) (.cons (.bin .add .u64 (.var 0) (.var 2)) (.cons (.bin .add .u64 (.bin .add .u64 (.var 1) (.var 3)) (.bin .add .u64 (.var 0) (.var 2))) (.vs 0 4 .nil))) 4
(.leaf (.vs 4 2 .nil)))
def abz:Spec:={F:=fun k=>match k with | 0=>iF | _=>fun _=>[],pre:=fun k=>match k with | _=>fun _=>True}
set_option maxRecDepth 100000 in
theorem ah8:am tys_KaD [ph 0] [] [] [] 200 Tryz.f227 [.agg kKn,.agg kKn] [.agg kKn] false [.int .u64,.int .u64,.int .u64,.int .u64] sT_kadd:=⟨by kernel_rfl,by kernel_rfl,by kernel_rfl⟩
set_option maxRecDepth 100000 in
set_option maxHeartbeats 8000000 in
theorem ahy (a:Kn) (ha:Kn.ok a) (b:Kn) (hb:Kn.ok b) (ρ:Env) (g:af ρ 0 [.int .u64,.int .u64,.int .u64,.int .u64]=[.z a.v,.z a.m,.z b.v,.z b.m]):sT_kadd.asks abz (fun ρ e=>e.D ρ=mc [.z a.v,.z a.m,.z b.v,.z b.m]) ρ fun _ _=>False:=by
 simp only[af,varD,List.cons.injEq,Dt.z.injEq,Dt.l.injEq,b2i_eq_iff,Nat.reduceAdd,and_true] at g
 simp only[sT_kadd,abz,kKn,iF,oO,mc,tp,Tr.asks,ai,okDs,okD,eqs,E.I,E.B,E.L,E.R,E.D,E.vs,E.gs,E.ins,E.sv,E.tn,E.iv,E.zs,E.pv,Nat.reduceSub,dI,dB,dL,varD,af,S1,Nat.reduceAdd,-eq_self,Kn.eta,Pi.eta,Pu.eta,Rg.eta,Sc.eta,Sc.eta_r,Sc.eta_k,Sc.eta_2,g]
 intro e; (try simp only[e,Kn.eta,Pi.eta,Pu.eta,Rg.eta,Sc.eta,Sc.eta_r,Sc.eta_k,Sc.eta_2,-eq_self]); clear e
 ·(unfold kadd; rfl)
theorem ait {sp:Spec} {key:Nat} (hF:sp.F key=mc) (hP:sp.pre key=fun _=>True:=by rfl):SmOk Tryz.prog sp (tO key):=
 an (s:=tO key) hF hP (by kernel_rfl) bW (smc (aeP rfl) sm0) Tryz.func227 fn0 ah8 (.inl rfl) (fun x0 gx0 x1 gx1 x2 gx2 x3 gx3 hp ρ g=>ahy ⟨x0,x1⟩ ⟨gx0,gx1⟩ ⟨x2,x3⟩ ⟨gx2,gx3⟩ ρ g)
def pd (key:Nat):Sm:=⟨228,key,[.agg kKn,.agg kKn],[.agg kKn],false⟩
def oL (a:Kn) (b:Kn):List Dt:=[.z ((ksub a b).v),.z ((ksub a b).m)]
def gI:List Dt→List Dt
 | [.z x0,.z x1,.z x2,.z x3]=>oL ⟨x0,x1⟩ ⟨x2,x3⟩
 | _=>[]
def sT_ksub:Tr:=
(.call 0 (kKn) (.cons (.bin .sub .u64 (.var 0) (.var 2)) (.cons (.bin .or .u64 (.bin .or .u64 (.bin .xor .u64 (.bin .add .u64 (.bin .sub .u64 (.var 0) (.var 2)) (.var 1)) (.bin .sub .u64 (.bin .sub .u64 (.var 0) (.var 2)) (.var 3))) (.var 1)) (.var 3)) .nil)) 4
(.leaf (.vs 4 2 .nil)))
def abp:Spec:={F:=fun k=>match k with | 0=>bD | _=>fun _=>[],pre:=fun k=>match k with | _=>fun _=>True}
set_option maxRecDepth 100000 in
theorem ahZ:am tys_KaD [ej 0] [] [] [] 200 Tryz.f228 [.agg kKn,.agg kKn] [.agg kKn] false [.int .u64,.int .u64,.int .u64,.int .u64] sT_ksub:=⟨by kernel_rfl,by kernel_rfl,by kernel_rfl⟩
set_option maxRecDepth 100000 in
set_option maxHeartbeats 8000000 in
theorem ahp (a:Kn) (ha:Kn.ok a) (b:Kn) (hb:Kn.ok b) (ρ:Env) (g:af ρ 0 [.int .u64,.int .u64,.int .u64,.int .u64]=[.z a.v,.z a.m,.z b.v,.z b.m]):sT_ksub.asks abp (fun ρ e=>e.D ρ=gI [.z a.v,.z a.m,.z b.v,.z b.m]) ρ fun _ _=>False:=by
 simp only[af,varD,List.cons.injEq,Dt.z.injEq,Dt.l.injEq,b2i_eq_iff,Nat.reduceAdd,and_true] at g
 simp only[sT_ksub,abp,kKn,bD,eg,gI,oL,Tr.asks,ai,okDs,okD,eqs,E.I,E.B,E.L,E.R,E.D,E.vs,E.gs,E.ins,E.sv,E.tn,E.iv,E.zs,E.pv,Nat.reduceSub,dI,dB,dL,varD,af,S1,Nat.reduceAdd,-eq_self,Kn.eta,Pi.eta,Pu.eta,Rg.eta,Sc.eta,Sc.eta_r,Sc.eta_k,Sc.eta_2,g]
 intro e; (try simp only[e,Kn.eta,Pi.eta,Pu.eta,Rg.eta,Sc.eta,Sc.eta_r,Sc.eta_k,Sc.eta_2,-eq_self]); clear e
 ·(unfold ksub; rfl)
theorem abS {sp:Spec} {key:Nat} (hF:sp.F key=gI) (hP:sp.pre key=fun _=>True:=by rfl):SmOk Tryz.prog sp (pd key):=
 an (s:=pd key) hF hP (by kernel_rfl) bW (smc (ip rfl) sm0) Tryz.func228 fn0 ahZ (.inl rfl) (fun x0 gx0 x1 gx1 x2 gx2 x3 gx3 hp ρ g=>ahp ⟨x0,x1⟩ ⟨gx0,gx1⟩ ⟨x2,x3⟩ ⟨gx2,gx3⟩ ρ g)
def tL (key:Nat):Sm:=⟨231,key,[.agg kKn,.agg kKn],[.agg kKn],false⟩
def th (a:Kn) (b:Kn):List Dt:=[.z ((ksub (kone 0) a).v),.z ((ksub (kone 0) a).m)]
def lX:List Dt→List Dt
 | [.z x0,.z x1,.z x2,.z x3]=>th ⟨x0,x1⟩ ⟨x2,x3⟩
 | _=>[]
def sT_kneg:Tr:=
(.call 0 (kKn) (.cons (.lit 0) .nil) 4
(.call 1 (kKn) (.vs 4 2 (.vs 0 2 .nil)) 6
(.leaf (.vs 6 2 .nil))))
def abt:Spec:={F:=fun k=>match k with | 0=>er | 1=>gI | _=>fun _=>[],pre:=fun k=>match k with | _=>fun _=>True}
set_option maxRecDepth 100000 in
theorem ah2:am tys_KaD [lB 0,pd 1] [] [] [] 200 Tryz.f231 [.agg kKn,.agg kKn] [.agg kKn] false [.int .u64,.int .u64,.int .u64,.int .u64] sT_kneg:=⟨by kernel_rfl,by kernel_rfl,by kernel_rfl⟩
set_option maxRecDepth 100000 in
set_option maxHeartbeats 8000000 in
theorem ahs (a:Kn) (ha:Kn.ok a) (b:Kn) (hb:Kn.ok b) (ρ:Env) (g:af ρ 0 [.int .u64,.int .u64,.int .u64,.int .u64]=[.z a.v,.z a.m,.z b.v,.z b.m]):sT_kneg.asks abt (fun ρ e=>e.D ρ=lX [.z a.v,.z a.m,.z b.v,.z b.m]) ρ fun _ _=>False:=by
 simp only[af,varD,List.cons.injEq,Dt.z.injEq,Dt.l.injEq,b2i_eq_iff,Nat.reduceAdd,and_true] at g
 simp only[sT_kneg,abt,kKn,er,gI,lm,oL,lX,th,Tr.asks,ai,okDs,okD,eqs,E.I,E.B,E.L,E.R,E.D,E.vs,E.gs,E.ins,E.sv,E.tn,E.iv,E.zs,E.pv,Nat.reduceSub,dI,dB,dL,varD,af,S1,Nat.reduceAdd,-eq_self,Kn.eta,Pi.eta,Pu.eta,Rg.eta,Sc.eta,Sc.eta_r,Sc.eta_k,Sc.eta_2,g]
 intro e; (try simp only[e,Kn.eta,Pi.eta,Pu.eta,Rg.eta,Sc.eta,Sc.eta_r,Sc.eta_k,Sc.eta_2,-eq_self]); clear e
 intro e; (try simp only[e,Kn.eta,Pi.eta,Pu.eta,Rg.eta,Sc.eta,Sc.eta_r,Sc.eta_k,Sc.eta_2,-eq_self]); clear e
 ·rfl
theorem aiq {sp:Spec} {key:Nat} (hF:sp.F key=lX) (hP:sp.pre key=fun _=>True:=by rfl):SmOk Tryz.prog sp (tL key):=
 an (s:=tL key) hF hP (by kernel_rfl) bW (smc (tV rfl) (smc (abS rfl) sm0)) Tryz.func231 fn0 ah2 (.inl rfl) (fun x0 gx0 x1 gx1 x2 gx2 x3 gx3 hp ρ g=>ahs ⟨x0,x1⟩ ⟨gx0,gx1⟩ ⟨x2,x3⟩ ⟨gx2,gx3⟩ ρ g)
def tN (key:Nat):Sm:=⟨230,key,[.agg kKn,.agg kKn],[.agg kKn],false⟩
def tk (a:Kn) (b:Kn):List Dt:=[.z ((kand a b).v),.z ((kand a b).m)]
def lZ:List Dt→List Dt
 | [.z x0,.z x1,.z x2,.z x3]=>tk ⟨x0,x1⟩ ⟨x2,x3⟩
 | _=>[]
def sT_kand:Tr:=
(.leaf (.cons (.bin .and .u64 (.var 0) (.var 2)) (.cons (.bin .andNot .u64 (.bin .and .u64 (.bin .or .u64 (.var 0) (.var 1)) (.bin .or .u64 (.var 2) (.var 3))) (.bin .and .u64 (.var 0) (.var 2))) .nil)))
def abx:Spec:={F:=fun k=>match k with | _=>fun _=>[],pre:=fun k=>match k with | _=>fun _=>True}
set_option maxRecDepth 100000 in
theorem ah6:am tys_KaD [] [] [] [] 200 Tryz.f230 [.agg kKn,.agg kKn] [.agg kKn] false [.int .u64,.int .u64,.int .u64,.int .u64] sT_kand:=⟨by kernel_rfl,by kernel_rfl,by kernel_rfl⟩
set_option maxRecDepth 100000 in
set_option maxHeartbeats 8000000 in
theorem ahw (a:Kn) (ha:Kn.ok a) (b:Kn) (hb:Kn.ok b) (ρ:Env) (g:af ρ 0 [.int .u64,.int .u64,.int .u64,.int .u64]=[.z a.v,.z a.m,.z b.v,.z b.m]):sT_kand.asks abx (fun ρ e=>e.D ρ=lZ [.z a.v,.z a.m,.z b.v,.z b.m]) ρ fun _ _=>False:=by
 simp only[af,varD,List.cons.injEq,Dt.z.injEq,Dt.l.injEq,b2i_eq_iff,Nat.reduceAdd,and_true] at g
 simp only[sT_kand,abx,lZ,tk,Tr.asks,ai,okDs,okD,eqs,E.I,E.B,E.L,E.R,E.D,E.vs,E.gs,E.ins,E.sv,E.tn,E.iv,E.zs,E.pv,Nat.reduceSub,dI,dB,dL,varD,af,S1,Nat.reduceAdd,-eq_self,Kn.eta,Sc.eta_r,Sc.eta_k,Sc.eta_2,g]
 ·rfl
theorem ais {sp:Spec} {key:Nat} (hF:sp.F key=lZ) (hP:sp.pre key=fun _=>True:=by rfl):SmOk Tryz.prog sp (tN key):=
 an (s:=tN key) hF hP (by kernel_rfl) bW (sm0) Tryz.func230 fn0 ah6 (.inl rfl) (fun x0 gx0 x1 gx1 x2 gx2 x3 gx3 hp ρ g=>ahw ⟨x0,x1⟩ ⟨gx0,gx1⟩ ⟨x2,x3⟩ ⟨gx2,gx3⟩ ρ g)
def abJ (key:Nat):Sm:=⟨229,key,[.agg kKn,.agg kKn],[.agg kKn],false⟩
def aaV (a:Kn) (b:Kn):List Dt:=[.z ((kor a b).v),.z ((kor a b).m)]
def rp:List Dt→List Dt
 | [.z x0,.z x1,.z x2,.z x3]=>aaV ⟨x0,x1⟩ ⟨x2,x3⟩
 | _=>[]
def sT_kor:Tr:=
(.leaf (.cons (.bin .or .u64 (.var 0) (.var 2)) (.cons (.bin .andNot .u64 (.bin .or .u64 (.var 1) (.var 3)) (.bin .or .u64 (.var 0) (.var 2))) .nil)))
def af0:Spec:={F:=fun k=>match k with | _=>fun _=>[],pre:=fun k=>match k with | _=>fun _=>True}
set_option maxRecDepth 100000 in
theorem akm:am tys_KaD [] [] [] [] 200 Tryz.f229 [.agg kKn,.agg kKn] [.agg kKn] false [.int .u64,.int .u64,.int .u64,.int .u64] sT_kor:=⟨by kernel_rfl,by kernel_rfl,by kernel_rfl⟩
set_option maxRecDepth 100000 in
set_option maxHeartbeats 8000000 in
theorem aj4 (a:Kn) (ha:Kn.ok a) (b:Kn) (hb:Kn.ok b) (ρ:Env) (g:af ρ 0 [.int .u64,.int .u64,.int .u64,.int .u64]=[.z a.v,.z a.m,.z b.v,.z b.m]):sT_kor.asks af0 (fun ρ e=>e.D ρ=rp [.z a.v,.z a.m,.z b.v,.z b.m]) ρ fun _ _=>False:=by
 simp only[af,varD,List.cons.injEq,Dt.z.injEq,Dt.l.injEq,b2i_eq_iff,Nat.reduceAdd,and_true] at g
 simp only[sT_kor,af0,rp,aaV,Tr.asks,ai,okDs,okD,eqs,E.I,E.B,E.L,E.R,E.D,E.vs,E.gs,E.ins,E.sv,E.tn,E.iv,E.zs,E.pv,Nat.reduceSub,dI,dB,dL,varD,af,S1,Nat.reduceAdd,-eq_self,Kn.eta,Sc.eta_r,Sc.eta_k,Sc.eta_2,g]
 ·rfl
theorem akD {sp:Spec} {key:Nat} (hF:sp.F key=rp) (hP:sp.pre key=fun _=>True:=by rfl):SmOk Tryz.prog sp (abJ key):=
 an (s:=abJ key) hF hP (by kernel_rfl) bW (sm0) Tryz.func229 fn0 akm (.inl rfl) (fun x0 gx0 x1 gx1 x2 gx2 x3 gx3 hp ρ g=>aj4 ⟨x0,x1⟩ ⟨gx0,gx1⟩ ⟨x2,x3⟩ ⟨gx2,gx3⟩ ρ g)
def tJ (key:Nat):Sm:=⟨232,key,[.agg kKn,.agg kKn],[.agg kKn],false⟩
def tf (a:Kn) (b:Kn):List Dt:=[.z ((kxor a b).v),.z ((kxor a b).m)]
def lV:List Dt→List Dt
 | [.z x0,.z x1,.z x2,.z x3]=>tf ⟨x0,x1⟩ ⟨x2,x3⟩
 | _=>[]
def sT_kxor:Tr:=
(.call 0 (kKn) (.cons (.bin .xor .u64 (.var 0) (.var 2)) (.cons (.bin .or .u64 (.var 1) (.var 3)) .nil)) 4
(.leaf (.vs 4 2 .nil)))
def abo:Spec:={F:=fun k=>match k with | 0=>bD | _=>fun _=>[],pre:=fun k=>match k with | _=>fun _=>True}
set_option maxRecDepth 100000 in
theorem ahY:am tys_KaD [ej 0] [] [] [] 200 Tryz.f232 [.agg kKn,.agg kKn] [.agg kKn] false [.int .u64,.int .u64,.int .u64,.int .u64] sT_kxor:=⟨by kernel_rfl,by kernel_rfl,by kernel_rfl⟩
set_option maxRecDepth 100000 in
set_option maxHeartbeats 8000000 in
theorem aho (a:Kn) (ha:Kn.ok a) (b:Kn) (hb:Kn.ok b) (ρ:Env) (g:af ρ 0 [.int .u64,.int .u64,.int .u64,.int .u64]=[.z a.v,.z a.m,.z b.v,.z b.m]):sT_kxor.asks abo (fun ρ e=>e.D ρ=lV [.z a.v,.z a.m,.z b.v,.z b.m]) ρ fun _ _=>False:=by
 simp only[af,varD,List.cons.injEq,Dt.z.injEq,Dt.l.injEq,b2i_eq_iff,Nat.reduceAdd,and_true] at g
 simp only[sT_kxor,abo,kKn,bD,eg,lV,tf,Tr.asks,ai,okDs,okD,eqs,E.I,E.B,E.L,E.R,E.D,E.vs,E.gs,E.ins,E.sv,E.tn,E.iv,E.zs,E.pv,Nat.reduceSub,dI,dB,dL,varD,af,S1,Nat.reduceAdd,-eq_self,Kn.eta,Pi.eta,Pu.eta,Rg.eta,Sc.eta,Sc.eta_r,Sc.eta_k,Sc.eta_2,g]
 intro e; (try simp only[e,Kn.eta,Pi.eta,Pu.eta,Rg.eta,Sc.eta,Sc.eta_r,Sc.eta_k,Sc.eta_2,-eq_self]); clear e
 ·rfl
theorem aio {sp:Spec} {key:Nat} (hF:sp.F key=lV) (hP:sp.pre key=fun _=>True:=by rfl):SmOk Tryz.prog sp (tJ key):=
 an (s:=tJ key) hF hP (by kernel_rfl) bW (smc (ip rfl) sm0) Tryz.func232 fn0 ahY (.inl rfl) (fun x0 gx0 x1 gx1 x2 gx2 x3 gx3 hp ρ g=>aho ⟨x0,x1⟩ ⟨gx0,gx1⟩ ⟨x2,x3⟩ ⟨gx2,gx3⟩ ρ g)
def tK (key:Nat):Sm:=⟨233,key,[.agg kKn,.agg kKn],[.agg kKn],false⟩
def tg (a:Kn) (b:Kn):List Dt:=[.z b.v,.z b.m]
def lW:List Dt→List Dt
 | [.z x0,.z x1,.z x2,.z x3]=>tg ⟨x0,x1⟩ ⟨x2,x3⟩
 | _=>[]
def sT_ksec:Tr:=
(.leaf (.vs 2 2 .nil))
def abq:Spec:={F:=fun k=>match k with | _=>fun _=>[],pre:=fun k=>match k with | _=>fun _=>True}
set_option maxRecDepth 100000 in
theorem ah0:am tys_KaD [] [] [] [] 200 Tryz.f233 [.agg kKn,.agg kKn] [.agg kKn] false [.int .u64,.int .u64,.int .u64,.int .u64] sT_ksec:=⟨by kernel_rfl,by kernel_rfl,by kernel_rfl⟩
set_option maxRecDepth 100000 in
set_option maxHeartbeats 8000000 in
theorem ahq (a:Kn) (ha:Kn.ok a) (b:Kn) (hb:Kn.ok b) (ρ:Env) (g:af ρ 0 [.int .u64,.int .u64,.int .u64,.int .u64]=[.z a.v,.z a.m,.z b.v,.z b.m]):sT_ksec.asks abq (fun ρ e=>e.D ρ=lW [.z a.v,.z a.m,.z b.v,.z b.m]) ρ fun _ _=>False:=by
 simp only[af,varD,List.cons.injEq,Dt.z.injEq,Dt.l.injEq,b2i_eq_iff,Nat.reduceAdd,and_true] at g
 simp only[sT_ksec,abq,lW,tg,Tr.asks,ai,okDs,okD,eqs,E.I,E.B,E.L,E.R,E.D,E.vs,E.gs,E.ins,E.sv,E.tn,E.iv,E.zs,E.pv,Nat.reduceSub,dI,dB,dL,varD,af,S1,Nat.reduceAdd,-eq_self,Kn.eta,Sc.eta_r,Sc.eta_k,Sc.eta_2,g]
 ·rfl
theorem aip {sp:Spec} {key:Nat} (hF:sp.F key=lW) (hP:sp.pre key=fun _=>True:=by rfl):SmOk Tryz.prog sp (tK key):=
 an (s:=tK key) hF hP (by kernel_rfl) bW (sm0) Tryz.func233 fn0 ah0 (.inl rfl) (fun x0 gx0 x1 gx1 x2 gx2 x3 gx3 hp ρ g=>ahq ⟨x0,x1⟩ ⟨gx0,gx1⟩ ⟨x2,x3⟩ ⟨gx2,gx3⟩ ρ g)
def abK (key:Nat):Sm:=⟨189,key,[.one (.int .i8),.one (.int .i8),.agg kKn,.agg kKn],[.agg kKn],false⟩
def aaW (op:Int) (l:Int) (a:Kn) (b:Kn):List Dt:=[.z ((kdo op l a b).v),.z ((kdo op l a b).m)]
def rq:List Dt→List Dt
 | [.z x0,.z x1,.z x2,.z x3,.z x4,.z x5]=>aaW x0 x1 ⟨x2,x3⟩ ⟨x4,x5⟩
 | _=>[]
set_option maxRecDepth 100000 in
def sT_kdo:Tr:=
(.call 0 [.bool] (.vs 2 2 .nil) 6
(.br (.bvar 6)
(.call 0 [.bool] (.vs 4 2 .nil) 7
(.br (.bvar 7)
(.br (.lt (.var 0) (.lit 0))
(.call 1 (kKn) .nil 8
(.leaf (.vs 8 2 .nil)))
(.br (.lt (.lit 12) (.var 0))
(.call 1 (kKn) .nil 8
(.leaf (.vs 8 2 .nil)))
(.br (.eq (.var 1) (.lit 32))
(.call 2 (kKn) (.vs 2 2 (.cons (.var 1) .nil)) 8
(.call 2 (kKn) (.vs 4 2 (.cons (.var 1) .nil)) 10
(.br (.eq (.bin .or .u64 (.var 9) (.var 11)) (.lit 0))
(.call 3 [.int .u64,.int .i64] (.vs 0 2 (.cons (.var 8) (.cons (.var 10) .nil))) 12
(.call 4 (kKn) (.cons (.var 12) .nil) 14
(.leaf (.vs 14 2 .nil))))
(.call 1 (kKn) .nil 12
(.br (.eq (.var 0) (.lit 6))
(.br (.eq (.bin .and .u64 (.var 11) (.bin .sub .u64 (.conv .u64 (.var 1)) (.lit 1))) (.lit 0))
(.call 3 [.int .u64,.int .i64] (.vs 0 2 (.cons (.var 8) (.cons (.bin .and .u64 (.var 10) (.bin .sub .u64 (.conv .u64 (.var 1)) (.lit 1))) .nil))) 14
(.call 3 [.int .u64,.int .i64] (.vs 0 2 (.cons (.var 9) (.cons (.bin .and .u64 (.var 10) (.bin .sub .u64 (.conv .u64 (.var 1)) (.lit 1))) .nil))) 16
(.call 5 (kKn) (.cons (.var 14) (.cons (.var 16) .nil)) 18
(.call 2 (kKn) (.vs 18 2 (.cons (.var 1) .nil)) 20
(.leaf (.vs 20 2 .nil))))))
(.call 2 (kKn) (.vs 12 2 (.cons (.var 1) .nil)) 14
(.leaf (.vs 14 2 .nil))))
(.br (.eq (.var 0) (.lit 7))
(.br (.eq (.bin .and .u64 (.var 11) (.bin .sub .u64 (.conv .u64 (.var 1)) (.lit 1))) (.lit 0))
(.call 3 [.int .u64,.int .i64] (.vs 0 2 (.cons (.var 8) (.cons (.bin .and .u64 (.var 10) (.bin .sub .u64 (.conv .u64 (.var 1)) (.lit 1))) .nil))) 14
(.call 3 [.int .u64,.int .i64] (.vs 0 2 (.cons (.var 9) (.cons (.bin .and .u64 (.var 10) (.bin .sub .u64 (.conv .u64 (.var 1)) (.lit 1))) .nil))) 16
(.call 5 (kKn) (.cons (.var 14) (.cons (.var 16) .nil)) 18
(.call 2 (kKn) (.vs 18 2 (.cons (.var 1) .nil)) 20
(.leaf (.vs 20 2 .nil))))))
(.call 2 (kKn) (.vs 12 2 (.cons (.var 1) .nil)) 14
(.leaf (.vs 14 2 .nil))))
(.br (.eq (.var 0) (.lit 12))
(.br (.eq (.bin .and .u64 (.var 11) (.bin .sub .u64 (.conv .u64 (.var 1)) (.lit 1))) (.lit 0))
(.call 3 [.int .u64,.int .i64] (.vs 0 2 (.cons (.var 8) (.cons (.bin .and .u64 (.var 10) (.bin .sub .u64 (.conv .u64 (.var 1)) (.lit 1))) .nil))) 14
(.call 3 [.int .u64,.int .i64] (.vs 0 2 (.cons (.var 9) (.cons (.bin .and .u64 (.var 10) (.bin .sub .u64 (.conv .u64 (.var 1)) (.lit 1))) .nil))) 16
(.call 5 (kKn) (.cons (.var 14) (.cons (.var 16) .nil)) 18
(.call 2 (kKn) (.vs 18 2 (.cons (.var 1) .nil)) 20
(.leaf (.vs 20 2 .nil))))))
(.call 2 (kKn) (.vs 12 2 (.cons (.var 1) .nil)) 14
(.leaf (.vs 14 2 .nil))))
(.br (.eq (.var 0) (.lit 0))
(.call 6 (kKn) (.vs 8 4 .nil) 14
(.call 2 (kKn) (.vs 14 2 (.cons (.var 1) .nil)) 16
(.leaf (.vs 16 2 .nil))))
(.br (.eq (.var 0) (.lit 1))
(.call 7 (kKn) (.vs 8 4 .nil) 14
(.call 2 (kKn) (.vs 14 2 (.cons (.var 1) .nil)) 16
(.leaf (.vs 16 2 .nil))))
(.br (.eq (.var 0) (.lit 2))
(.call 2 (kKn) (.vs 12 2 (.cons (.var 1) .nil)) 14
(.leaf (.vs 14 2 .nil)))
(.br (.eq (.var 0) (.lit 3))
(.call 2 (kKn) (.vs 12 2 (.cons (.var 1) .nil)) 14
(.leaf (.vs 14 2 .nil)))
(.br (.eq (.var 0) (.lit 4))
(.call 8 (kKn) (.vs 8 4 .nil) 14
(.call 2 (kKn) (.vs 14 2 (.cons (.var 1) .nil)) 16
(.leaf (.vs 16 2 .nil))))
(.br (.eq (.var 0) (.lit 5))
(.call 9 (kKn) (.vs 8 4 .nil) 14
(.call 2 (kKn) (.vs 14 2 (.cons (.var 1) .nil)) 16
(.leaf (.vs 16 2 .nil))))
(.br (.eq (.var 0) (.lit 8))
(.call 10 (kKn) (.vs 8 4 .nil) 14
(.call 2 (kKn) (.vs 14 2 (.cons (.var 1) .nil)) 16
(.leaf (.vs 16 2 .nil))))
(.br (.eq (.var 0) (.lit 9))
(.call 2 (kKn) (.vs 12 2 (.cons (.var 1) .nil)) 14
(.leaf (.vs 14 2 .nil)))
(.br (.eq (.var 0) (.lit 10))
(.call 11 (kKn) (.vs 8 4 .nil) 14
(.call 2 (kKn) (.vs 14 2 (.cons (.var 1) .nil)) 16
(.leaf (.vs 16 2 .nil))))
(.br (.eq (.var 0) (.lit 11))
(.call 12 (kKn) (.vs 8 4 .nil) 14
(.call 2 (kKn) (.vs 14 2 (.cons (.var 1) .nil)) 16
(.leaf (.vs 16 2 .nil))))
.panic)))))))))))))))))
(.br (.eq (.var 1) (.lit 64))
(.call 2 (kKn) (.vs 2 2 (.cons (.var 1) .nil)) 8
(.call 2 (kKn) (.vs 4 2 (.cons (.var 1) .nil)) 10
(.br (.eq (.bin .or .u64 (.var 9) (.var 11)) (.lit 0))
(.call 3 [.int .u64,.int .i64] (.vs 0 2 (.cons (.var 8) (.cons (.var 10) .nil))) 12
(.call 4 (kKn) (.cons (.var 12) .nil) 14
(.leaf (.vs 14 2 .nil))))
(.call 1 (kKn) .nil 12
(.br (.eq (.var 0) (.lit 6))
(.br (.eq (.bin .and .u64 (.var 11) (.bin .sub .u64 (.conv .u64 (.var 1)) (.lit 1))) (.lit 0))
(.call 3 [.int .u64,.int .i64] (.vs 0 2 (.cons (.var 8) (.cons (.bin .and .u64 (.var 10) (.bin .sub .u64 (.conv .u64 (.var 1)) (.lit 1))) .nil))) 14
(.call 3 [.int .u64,.int .i64] (.vs 0 2 (.cons (.var 9) (.cons (.bin .and .u64 (.var 10) (.bin .sub .u64 (.conv .u64 (.var 1)) (.lit 1))) .nil))) 16
(.call 5 (kKn) (.cons (.var 14) (.cons (.var 16) .nil)) 18
(.call 2 (kKn) (.vs 18 2 (.cons (.var 1) .nil)) 20
(.leaf (.vs 20 2 .nil))))))
(.call 2 (kKn) (.vs 12 2 (.cons (.var 1) .nil)) 14
(.leaf (.vs 14 2 .nil))))
(.br (.eq (.var 0) (.lit 7))
(.br (.eq (.bin .and .u64 (.var 11) (.bin .sub .u64 (.conv .u64 (.var 1)) (.lit 1))) (.lit 0))
(.call 3 [.int .u64,.int .i64] (.vs 0 2 (.cons (.var 8) (.cons (.bin .and .u64 (.var 10) (.bin .sub .u64 (.conv .u64 (.var 1)) (.lit 1))) .nil))) 14
(.call 3 [.int .u64,.int .i64] (.vs 0 2 (.cons (.var 9) (.cons (.bin .and .u64 (.var 10) (.bin .sub .u64 (.conv .u64 (.var 1)) (.lit 1))) .nil))) 16
(.call 5 (kKn) (.cons (.var 14) (.cons (.var 16) .nil)) 18
(.call 2 (kKn) (.vs 18 2 (.cons (.var 1) .nil)) 20
(.leaf (.vs 20 2 .nil))))))
(.call 2 (kKn) (.vs 12 2 (.cons (.var 1) .nil)) 14
(.leaf (.vs 14 2 .nil))))
(.br (.eq (.var 0) (.lit 12))
(.br (.eq (.bin .and .u64 (.var 11) (.bin .sub .u64 (.conv .u64 (.var 1)) (.lit 1))) (.lit 0))
(.call 3 [.int .u64,.int .i64] (.vs 0 2 (.cons (.var 8) (.cons (.bin .and .u64 (.var 10) (.bin .sub .u64 (.conv .u64 (.var 1)) (.lit 1))) .nil))) 14
(.call 3 [.int .u64,.int .i64] (.vs 0 2 (.cons (.var 9) (.cons (.bin .and .u64 (.var 10) (.bin .sub .u64 (.conv .u64 (.var 1)) (.lit 1))) .nil))) 16
(.call 5 (kKn) (.cons (.var 14) (.cons (.var 16) .nil)) 18
(.call 2 (kKn) (.vs 18 2 (.cons (.var 1) .nil)) 20
(.leaf (.vs 20 2 .nil))))))
(.call 2 (kKn) (.vs 12 2 (.cons (.var 1) .nil)) 14
(.leaf (.vs 14 2 .nil))))
(.br (.eq (.var 0) (.lit 0))
(.call 6 (kKn) (.vs 8 4 .nil) 14
(.call 2 (kKn) (.vs 14 2 (.cons (.var 1) .nil)) 16
(.leaf (.vs 16 2 .nil))))
(.br (.eq (.var 0) (.lit 1))
(.call 7 (kKn) (.vs 8 4 .nil) 14
(.call 2 (kKn) (.vs 14 2 (.cons (.var 1) .nil)) 16
(.leaf (.vs 16 2 .nil))))
(.br (.eq (.var 0) (.lit 2))
(.call 2 (kKn) (.vs 12 2 (.cons (.var 1) .nil)) 14
(.leaf (.vs 14 2 .nil)))
(.br (.eq (.var 0) (.lit 3))
(.call 2 (kKn) (.vs 12 2 (.cons (.var 1) .nil)) 14
(.leaf (.vs 14 2 .nil)))
(.br (.eq (.var 0) (.lit 4))
(.call 8 (kKn) (.vs 8 4 .nil) 14
(.call 2 (kKn) (.vs 14 2 (.cons (.var 1) .nil)) 16
(.leaf (.vs 16 2 .nil))))
(.br (.eq (.var 0) (.lit 5))
(.call 9 (kKn) (.vs 8 4 .nil) 14
(.call 2 (kKn) (.vs 14 2 (.cons (.var 1) .nil)) 16
(.leaf (.vs 16 2 .nil))))
(.br (.eq (.var 0) (.lit 8))
(.call 10 (kKn) (.vs 8 4 .nil) 14
(.call 2 (kKn) (.vs 14 2 (.cons (.var 1) .nil)) 16
(.leaf (.vs 16 2 .nil))))
(.br (.eq (.var 0) (.lit 9))
(.call 2 (kKn) (.vs 12 2 (.cons (.var 1) .nil)) 14
(.leaf (.vs 14 2 .nil)))
(.br (.eq (.var 0) (.lit 10))
(.call 11 (kKn) (.vs 8 4 .nil) 14
(.call 2 (kKn) (.vs 14 2 (.cons (.var 1) .nil)) 16
(.leaf (.vs 16 2 .nil))))
(.br (.eq (.var 0) (.lit 11))
(.call 12 (kKn) (.vs 8 4 .nil) 14
(.call 2 (kKn) (.vs 14 2 (.cons (.var 1) .nil)) 16
(.leaf (.vs 16 2 .nil))))
.panic)))))))))))))))))
(.call 1 (kKn) .nil 8
(.leaf (.vs 8 2 .nil)))))))
(.call 1 (kKn) .nil 8
(.leaf (.vs 8 2 .nil)))))
(.call 1 (kKn) .nil 7
(.leaf (.vs 7 2 .nil)))))
def af1:Spec:={F:=fun k=>match k with | 0=>cu | 1=>da | 2=>gJ | 3=>eU | 4=>er | 5=>bD | 6=>mc | 7=>gI | 8=>rp | 9=>lZ | 10=>lX | 11=>lV | 12=>lW | _=>fun _=>[],pre:=fun k=>match k with | _=>fun _=>True}
set_option maxRecDepth 100000 in
theorem akn:am tys_KaD [gC 0,js 1,pg 2,jv 3,lB 4,ej 5,tO 6,pd 7,abJ 8,tN 9,tL 10,tJ 11,tK 12] [] [] [] 200 Tryz.f189 [.one (.int .i8),.one (.int .i8),.agg kKn,.agg kKn] [.agg kKn] false [.int .i8,.int .i8,.int .u64,.int .u64,.int .u64,.int .u64] sT_kdo:=⟨by kernel_rfl,by kernel_rfl,by kernel_rfl⟩
set_option maxRecDepth 100000 in
set_option maxHeartbeats 8000000 in
theorem aj5 (op:Int) (hop:inK .i8 op=true) (l:Int) (hl:inK .i8 l=true) (a:Kn) (ha:Kn.ok a) (b:Kn) (hb:Kn.ok b) (ρ:Env) (g:af ρ 0 [.int .i8,.int .i8,.int .u64,.int .u64,.int .u64,.int .u64]=[.z op,.z l,.z a.v,.z a.m,.z b.v,.z b.m]):sT_kdo.asks af1 (fun ρ e=>e.D ρ=rq [.z op,.z l,.z a.v,.z a.m,.z b.v,.z b.m]) ρ fun _ _=>False:=by
 simp only[af,varD,List.cons.injEq,Dt.z.injEq,Dt.l.injEq,b2i_eq_iff,Nat.reduceAdd,and_true] at g
 simp only[sT_kdo,af1,kKn,cu,da,gJ,eU,er,bD,mc,gI,rp,lZ,lX,lV,lW,gz,oN,jp,lm,eg,tp,oL,aaV,tk,th,tf,tg,rq,aaW,Tr.asks,ai,okDs,okD,eqs,E.I,E.B,E.L,E.R,E.D,E.vs,E.gs,E.ins,E.sv,E.tn,E.iv,E.zs,E.pv,Nat.reduceSub,dI,dB,dL,varD,af,S1,Nat.reduceAdd,-eq_self,Kn.eta,Pi.eta,Pu.eta,Rg.eta,Sc.eta,Sc.eta_r,Sc.eta_k,Sc.eta_2,g]
 intro e; (try simp only[e,Kn.eta,Pi.eta,Pu.eta,Rg.eta,Sc.eta,Sc.eta_r,Sc.eta_k,Sc.eta_2,-eq_self]); clear e
 constructor<;>intro c0
 intro e; (try simp only[e,Kn.eta,Pi.eta,Pu.eta,Rg.eta,Sc.eta,Sc.eta_r,Sc.eta_k,Sc.eta_2,-eq_self]); clear e
 constructor<;>intro c1
 constructor<;>intro c2
 intro e; (try simp only[e,Kn.eta,Pi.eta,Pu.eta,Rg.eta,Sc.eta,Sc.eta_r,Sc.eta_k,Sc.eta_2,-eq_self]); clear e
 ·exact aG (rR (al1 c2))
 constructor<;>intro c3
 intro e; (try simp only[e,Kn.eta,Pi.eta,Pu.eta,Rg.eta,Sc.eta,Sc.eta_r,Sc.eta_k,Sc.eta_2,-eq_self]); clear e
 ·exact aG (rR (al2 c3))
 constructor<;>intro c4
 intro e; (try simp only[e,Kn.eta,Pi.eta,Pu.eta,Rg.eta,Sc.eta,Sc.eta_r,Sc.eta_k,Sc.eta_2,-eq_self]); clear e
 intro e; (try simp only[e,Kn.eta,Pi.eta,Pu.eta,Rg.eta,Sc.eta,Sc.eta_r,Sc.eta_k,Sc.eta_2,-eq_self]); clear e
 constructor<;>intro c5
 intro e; (try simp only[e,Kn.eta,Pi.eta,Pu.eta,Rg.eta,Sc.eta,Sc.eta_r,Sc.eta_k,Sc.eta_2,-eq_self]); clear e
 intro e; (try simp only[e,Kn.eta,Pi.eta,Pu.eta,Rg.eta,Sc.eta,Sc.eta_r,Sc.eta_k,Sc.eta_2,-eq_self]); clear e
 ·(obtain rfl:=eqz c4; have hg:=bE c0 c1 c2 c3 (l:=32) rfl; exact aG (agl hg c5))
 intro e; (try simp only[e,Kn.eta,Pi.eta,Pu.eta,Rg.eta,Sc.eta,Sc.eta_r,Sc.eta_k,Sc.eta_2,-eq_self]); clear e
 constructor<;>intro c6
 constructor<;>intro c7
 intro e; (try simp only[e,Kn.eta,Pi.eta,Pu.eta,Rg.eta,Sc.eta,Sc.eta_r,Sc.eta_k,Sc.eta_2,-eq_self]); clear e
 intro e; (try simp only[e,Kn.eta,Pi.eta,Pu.eta,Rg.eta,Sc.eta,Sc.eta_r,Sc.eta_k,Sc.eta_2,-eq_self]); clear e
 intro e; (try simp only[e,Kn.eta,Pi.eta,Pu.eta,Rg.eta,Sc.eta,Sc.eta_r,Sc.eta_k,Sc.eta_2,-eq_self]); clear e
 intro e; (try simp only[e,Kn.eta,Pi.eta,Pu.eta,Rg.eta,Sc.eta,Sc.eta_r,Sc.eta_k,Sc.eta_2,-eq_self]); clear e
 ·(obtain rfl:=eqz c4; have hg:=bE c0 c1 c2 c3 (l:=32) rfl; obtain rfl:=eqz c6; exact aG (bM hg c5 (yh (by decide) c7)))
 intro e; (try simp only[e,Kn.eta,Pi.eta,Pu.eta,Rg.eta,Sc.eta,Sc.eta_r,Sc.eta_k,Sc.eta_2,-eq_self]); clear e
 ·(obtain rfl:=eqz c4; have hg:=bE c0 c1 c2 c3 (l:=32) rfl; obtain rfl:=eqz c6; exact aG (bM hg c5 (yj (by decide) c7)))
 constructor<;>intro c8
 constructor<;>intro c9
 intro e; (try simp only[e,Kn.eta,Pi.eta,Pu.eta,Rg.eta,Sc.eta,Sc.eta_r,Sc.eta_k,Sc.eta_2,-eq_self]); clear e
 intro e; (try simp only[e,Kn.eta,Pi.eta,Pu.eta,Rg.eta,Sc.eta,Sc.eta_r,Sc.eta_k,Sc.eta_2,-eq_self]); clear e
 intro e; (try simp only[e,Kn.eta,Pi.eta,Pu.eta,Rg.eta,Sc.eta,Sc.eta_r,Sc.eta_k,Sc.eta_2,-eq_self]); clear e
 intro e; (try simp only[e,Kn.eta,Pi.eta,Pu.eta,Rg.eta,Sc.eta,Sc.eta_r,Sc.eta_k,Sc.eta_2,-eq_self]); clear e
 ·(obtain rfl:=eqz c4; have hg:=bE c0 c1 c2 c3 (l:=32) rfl; obtain rfl:=eqz c8; exact aG (bM hg c5 (yh (by decide) c9)))
 intro e; (try simp only[e,Kn.eta,Pi.eta,Pu.eta,Rg.eta,Sc.eta,Sc.eta_r,Sc.eta_k,Sc.eta_2,-eq_self]); clear e
 ·(obtain rfl:=eqz c4; have hg:=bE c0 c1 c2 c3 (l:=32) rfl; obtain rfl:=eqz c8; exact aG (bM hg c5 (yj (by decide) c9)))
 constructor<;>intro c10
 constructor<;>intro c11
 intro e; (try simp only[e,Kn.eta,Pi.eta,Pu.eta,Rg.eta,Sc.eta,Sc.eta_r,Sc.eta_k,Sc.eta_2,-eq_self]); clear e
 intro e; (try simp only[e,Kn.eta,Pi.eta,Pu.eta,Rg.eta,Sc.eta,Sc.eta_r,Sc.eta_k,Sc.eta_2,-eq_self]); clear e
 intro e; (try simp only[e,Kn.eta,Pi.eta,Pu.eta,Rg.eta,Sc.eta,Sc.eta_r,Sc.eta_k,Sc.eta_2,-eq_self]); clear e
 intro e; (try simp only[e,Kn.eta,Pi.eta,Pu.eta,Rg.eta,Sc.eta,Sc.eta_r,Sc.eta_k,Sc.eta_2,-eq_self]); clear e
 ·(obtain rfl:=eqz c4; have hg:=bE c0 c1 c2 c3 (l:=32) rfl; obtain rfl:=eqz c10; exact aG (bM hg c5 (yh (by decide) c11)))
 intro e; (try simp only[e,Kn.eta,Pi.eta,Pu.eta,Rg.eta,Sc.eta,Sc.eta_r,Sc.eta_k,Sc.eta_2,-eq_self]); clear e
 ·(obtain rfl:=eqz c4; have hg:=bE c0 c1 c2 c3 (l:=32) rfl; obtain rfl:=eqz c10; exact aG (bM hg c5 (yj (by decide) c11)))
 constructor<;>intro c12
 intro e; (try simp only[e,Kn.eta,Pi.eta,Pu.eta,Rg.eta,Sc.eta,Sc.eta_r,Sc.eta_k,Sc.eta_2,-eq_self]); clear e
 intro e; (try simp only[e,Kn.eta,Pi.eta,Pu.eta,Rg.eta,Sc.eta,Sc.eta_r,Sc.eta_k,Sc.eta_2,-eq_self]); clear e
 ·(obtain rfl:=eqz c4; have hg:=bE c0 c1 c2 c3 (l:=32) rfl; obtain rfl:=eqz c12; exact aG (bM hg c5 rfl))
 constructor<;>intro c13
 intro e; (try simp only[e,Kn.eta,Pi.eta,Pu.eta,Rg.eta,Sc.eta,Sc.eta_r,Sc.eta_k,Sc.eta_2,-eq_self]); clear e
 intro e; (try simp only[e,Kn.eta,Pi.eta,Pu.eta,Rg.eta,Sc.eta,Sc.eta_r,Sc.eta_k,Sc.eta_2,-eq_self]); clear e
 ·(obtain rfl:=eqz c4; have hg:=bE c0 c1 c2 c3 (l:=32) rfl; obtain rfl:=eqz c13; exact aG (bM hg c5 rfl))
 constructor<;>intro c14
 intro e; (try simp only[e,Kn.eta,Pi.eta,Pu.eta,Rg.eta,Sc.eta,Sc.eta_r,Sc.eta_k,Sc.eta_2,-eq_self]); clear e
 ·(obtain rfl:=eqz c4; have hg:=bE c0 c1 c2 c3 (l:=32) rfl; obtain rfl:=eqz c14; exact aG (bM hg c5 rfl))
 constructor<;>intro c15
 intro e; (try simp only[e,Kn.eta,Pi.eta,Pu.eta,Rg.eta,Sc.eta,Sc.eta_r,Sc.eta_k,Sc.eta_2,-eq_self]); clear e
 ·(obtain rfl:=eqz c4; have hg:=bE c0 c1 c2 c3 (l:=32) rfl; obtain rfl:=eqz c15; exact aG (bM hg c5 rfl))
 constructor<;>intro c16
 intro e; (try simp only[e,Kn.eta,Pi.eta,Pu.eta,Rg.eta,Sc.eta,Sc.eta_r,Sc.eta_k,Sc.eta_2,-eq_self]); clear e
 intro e; (try simp only[e,Kn.eta,Pi.eta,Pu.eta,Rg.eta,Sc.eta,Sc.eta_r,Sc.eta_k,Sc.eta_2,-eq_self]); clear e
 ·(obtain rfl:=eqz c4; have hg:=bE c0 c1 c2 c3 (l:=32) rfl; obtain rfl:=eqz c16; exact aG (bM hg c5 rfl))
 constructor<;>intro c17
 intro e; (try simp only[e,Kn.eta,Pi.eta,Pu.eta,Rg.eta,Sc.eta,Sc.eta_r,Sc.eta_k,Sc.eta_2,-eq_self]); clear e
 intro e; (try simp only[e,Kn.eta,Pi.eta,Pu.eta,Rg.eta,Sc.eta,Sc.eta_r,Sc.eta_k,Sc.eta_2,-eq_self]); clear e
 ·(obtain rfl:=eqz c4; have hg:=bE c0 c1 c2 c3 (l:=32) rfl; obtain rfl:=eqz c17; exact aG (bM hg c5 rfl))
 constructor<;>intro c18
 intro e; (try simp only[e,Kn.eta,Pi.eta,Pu.eta,Rg.eta,Sc.eta,Sc.eta_r,Sc.eta_k,Sc.eta_2,-eq_self]); clear e
 intro e; (try simp only[e,Kn.eta,Pi.eta,Pu.eta,Rg.eta,Sc.eta,Sc.eta_r,Sc.eta_k,Sc.eta_2,-eq_self]); clear e
 ·(obtain rfl:=eqz c4; have hg:=bE c0 c1 c2 c3 (l:=32) rfl; obtain rfl:=eqz c18; exact aG (bM hg c5 rfl))
 constructor<;>intro c19
 intro e; (try simp only[e,Kn.eta,Pi.eta,Pu.eta,Rg.eta,Sc.eta,Sc.eta_r,Sc.eta_k,Sc.eta_2,-eq_self]); clear e
 ·(obtain rfl:=eqz c4; have hg:=bE c0 c1 c2 c3 (l:=32) rfl; obtain rfl:=eqz c19; exact aG (bM hg c5 rfl))
 constructor<;>intro c20
 intro e; (try simp only[e,Kn.eta,Pi.eta,Pu.eta,Rg.eta,Sc.eta,Sc.eta_r,Sc.eta_k,Sc.eta_2,-eq_self]); clear e
 intro e; (try simp only[e,Kn.eta,Pi.eta,Pu.eta,Rg.eta,Sc.eta,Sc.eta_r,Sc.eta_k,Sc.eta_2,-eq_self]); clear e
 ·(obtain rfl:=eqz c4; have hg:=bE c0 c1 c2 c3 (l:=32) rfl; obtain rfl:=eqz c20; exact aG (bM hg c5 rfl))
 constructor<;>intro c21
 intro e; (try simp only[e,Kn.eta,Pi.eta,Pu.eta,Rg.eta,Sc.eta,Sc.eta_r,Sc.eta_k,Sc.eta_2,-eq_self]); clear e
 intro e; (try simp only[e,Kn.eta,Pi.eta,Pu.eta,Rg.eta,Sc.eta,Sc.eta_r,Sc.eta_k,Sc.eta_2,-eq_self]); clear e
 ·(obtain rfl:=eqz c4; have hg:=bE c0 c1 c2 c3 (l:=32) rfl; obtain rfl:=eqz c21; exact aG (bM hg c5 rfl))
 ·(have h2:=of_decide_eq_false c2; have h3:=of_decide_eq_false c3; have h10:=nez c6; have h11:=nez c8; have h12:=nez c10; have h13:=nez c12; have h14:=nez c13; have h15:=nez c14; have h16:=nez c15; have h17:=nez c16; have h18:=nez c17; have h19:=nez c18; have h20:=nez c19; have h21:=nez c20; have h22:=nez c21; omega)
 constructor<;>intro c22
 intro e; (try simp only[e,Kn.eta,Pi.eta,Pu.eta,Rg.eta,Sc.eta,Sc.eta_r,Sc.eta_k,Sc.eta_2,-eq_self]); clear e
 intro e; (try simp only[e,Kn.eta,Pi.eta,Pu.eta,Rg.eta,Sc.eta,Sc.eta_r,Sc.eta_k,Sc.eta_2,-eq_self]); clear e
 constructor<;>intro c23
 intro e; (try simp only[e,Kn.eta,Pi.eta,Pu.eta,Rg.eta,Sc.eta,Sc.eta_r,Sc.eta_k,Sc.eta_2,-eq_self]); clear e
 intro e; (try simp only[e,Kn.eta,Pi.eta,Pu.eta,Rg.eta,Sc.eta,Sc.eta_r,Sc.eta_k,Sc.eta_2,-eq_self]); clear e
 ·(obtain rfl:=eqz c22; have hg:=bE c0 c1 c2 c3 (l:=64) rfl; exact aG (agl hg c23))
 intro e; (try simp only[e,Kn.eta,Pi.eta,Pu.eta,Rg.eta,Sc.eta,Sc.eta_r,Sc.eta_k,Sc.eta_2,-eq_self]); clear e
 constructor<;>intro c24
 constructor<;>intro c25
 intro e; (try simp only[e,Kn.eta,Pi.eta,Pu.eta,Rg.eta,Sc.eta,Sc.eta_r,Sc.eta_k,Sc.eta_2,-eq_self]); clear e
 intro e; (try simp only[e,Kn.eta,Pi.eta,Pu.eta,Rg.eta,Sc.eta,Sc.eta_r,Sc.eta_k,Sc.eta_2,-eq_self]); clear e
 intro e; (try simp only[e,Kn.eta,Pi.eta,Pu.eta,Rg.eta,Sc.eta,Sc.eta_r,Sc.eta_k,Sc.eta_2,-eq_self]); clear e
 intro e; (try simp only[e,Kn.eta,Pi.eta,Pu.eta,Rg.eta,Sc.eta,Sc.eta_r,Sc.eta_k,Sc.eta_2,-eq_self]); clear e
 ·(obtain rfl:=eqz c22; have hg:=bE c0 c1 c2 c3 (l:=64) rfl; obtain rfl:=eqz c24; exact aG (bM hg c23 (yh (by decide) c25)))
 intro e; (try simp only[e,Kn.eta,Pi.eta,Pu.eta,Rg.eta,Sc.eta,Sc.eta_r,Sc.eta_k,Sc.eta_2,-eq_self]); clear e
 ·(obtain rfl:=eqz c22; have hg:=bE c0 c1 c2 c3 (l:=64) rfl; obtain rfl:=eqz c24; exact aG (bM hg c23 (yj (by decide) c25)))
 constructor<;>intro c26
 constructor<;>intro c27
 intro e; (try simp only[e,Kn.eta,Pi.eta,Pu.eta,Rg.eta,Sc.eta,Sc.eta_r,Sc.eta_k,Sc.eta_2,-eq_self]); clear e
 intro e; (try simp only[e,Kn.eta,Pi.eta,Pu.eta,Rg.eta,Sc.eta,Sc.eta_r,Sc.eta_k,Sc.eta_2,-eq_self]); clear e
 intro e; (try simp only[e,Kn.eta,Pi.eta,Pu.eta,Rg.eta,Sc.eta,Sc.eta_r,Sc.eta_k,Sc.eta_2,-eq_self]); clear e
 intro e; (try simp only[e,Kn.eta,Pi.eta,Pu.eta,Rg.eta,Sc.eta,Sc.eta_r,Sc.eta_k,Sc.eta_2,-eq_self]); clear e
 ·(obtain rfl:=eqz c22; have hg:=bE c0 c1 c2 c3 (l:=64) rfl; obtain rfl:=eqz c26; exact aG (bM hg c23 (yh (by decide) c27)))
 intro e; (try simp only[e,Kn.eta,Pi.eta,Pu.eta,Rg.eta,Sc.eta,Sc.eta_r,Sc.eta_k,Sc.eta_2,-eq_self]); clear e
 ·(obtain rfl:=eqz c22; have hg:=bE c0 c1 c2 c3 (l:=64) rfl; obtain rfl:=eqz c26; exact aG (bM hg c23 (yj (by decide) c27)))
 constructor<;>intro c28
 constructor<;>intro c29
 intro e; (try simp only[e,Kn.eta,Pi.eta,Pu.eta,Rg.eta,Sc.eta,Sc.eta_r,Sc.eta_k,Sc.eta_2,-eq_self]); clear e
 intro e; (try simp only[e,Kn.eta,Pi.eta,Pu.eta,Rg.eta,Sc.eta,Sc.eta_r,Sc.eta_k,Sc.eta_2,-eq_self]); clear e
 intro e; (try simp only[e,Kn.eta,Pi.eta,Pu.eta,Rg.eta,Sc.eta,Sc.eta_r,Sc.eta_k,Sc.eta_2,-eq_self]); clear e
 intro e; (try simp only[e,Kn.eta,Pi.eta,Pu.eta,Rg.eta,Sc.eta,Sc.eta_r,Sc.eta_k,Sc.eta_2,-eq_self]); clear e
 ·(obtain rfl:=eqz c22; have hg:=bE c0 c1 c2 c3 (l:=64) rfl; obtain rfl:=eqz c28; exact aG (bM hg c23 (yh (by decide) c29)))
 intro e; (try simp only[e,Kn.eta,Pi.eta,Pu.eta,Rg.eta,Sc.eta,Sc.eta_r,Sc.eta_k,Sc.eta_2,-eq_self]); clear e
 ·(obtain rfl:=eqz c22; have hg:=bE c0 c1 c2 c3 (l:=64) rfl; obtain rfl:=eqz c28; exact aG (bM hg c23 (yj (by decide) c29)))
 constructor<;>intro c30
 intro e; (try simp only[e,Kn.eta,Pi.eta,Pu.eta,Rg.eta,Sc.eta,Sc.eta_r,Sc.eta_k,Sc.eta_2,-eq_self]); clear e
 intro e; (try simp only[e,Kn.eta,Pi.eta,Pu.eta,Rg.eta,Sc.eta,Sc.eta_r,Sc.eta_k,Sc.eta_2,-eq_self]); clear e
 ·(obtain rfl:=eqz c22; have hg:=bE c0 c1 c2 c3 (l:=64) rfl; obtain rfl:=eqz c30; exact aG (bM hg c23 rfl))
 constructor<;>intro c31
 intro e; (try simp only[e,Kn.eta,Pi.eta,Pu.eta,Rg.eta,Sc.eta,Sc.eta_r,Sc.eta_k,Sc.eta_2,-eq_self]); clear e
 intro e; (try simp only[e,Kn.eta,Pi.eta,Pu.eta,Rg.eta,Sc.eta,Sc.eta_r,Sc.eta_k,Sc.eta_2,-eq_self]); clear e
 ·(obtain rfl:=eqz c22; have hg:=bE c0 c1 c2 c3 (l:=64) rfl; obtain rfl:=eqz c31; exact aG (bM hg c23 rfl))
 constructor<;>intro c32
 intro e; (try simp only[e,Kn.eta,Pi.eta,Pu.eta,Rg.eta,Sc.eta,Sc.eta_r,Sc.eta_k,Sc.eta_2,-eq_self]); clear e
 ·(obtain rfl:=eqz c22; have hg:=bE c0 c1 c2 c3 (l:=64) rfl; obtain rfl:=eqz c32; exact aG (bM hg c23 rfl))
 constructor<;>intro c33
 intro e; (try simp only[e,Kn.eta,Pi.eta,Pu.eta,Rg.eta,Sc.eta,Sc.eta_r,Sc.eta_k,Sc.eta_2,-eq_self]); clear e
 ·(obtain rfl:=eqz c22; have hg:=bE c0 c1 c2 c3 (l:=64) rfl; obtain rfl:=eqz c33; exact aG (bM hg c23 rfl))
 constructor<;>intro c34
 intro e; (try simp only[e,Kn.eta,Pi.eta,Pu.eta,Rg.eta,Sc.eta,Sc.eta_r,Sc.eta_k,Sc.eta_2,-eq_self]); clear e
 intro e; (try simp only[e,Kn.eta,Pi.eta,Pu.eta,Rg.eta,Sc.eta,Sc.eta_r,Sc.eta_k,Sc.eta_2,-eq_self]); clear e
 ·(obtain rfl:=eqz c22; have hg:=bE c0 c1 c2 c3 (l:=64) rfl; obtain rfl:=eqz c34; exact aG (bM hg c23 rfl))
 constructor<;>intro c35
 intro e; (try simp only[e,Kn.eta,Pi.eta,Pu.eta,Rg.eta,Sc.eta,Sc.eta_r,Sc.eta_k,Sc.eta_2,-eq_self]); clear e
 intro e; (try simp only[e,Kn.eta,Pi.eta,Pu.eta,Rg.eta,Sc.eta,Sc.eta_r,Sc.eta_k,Sc.eta_2,-eq_self]); clear e
 ·(obtain rfl:=eqz c22; have hg:=bE c0 c1 c2 c3 (l:=64) rfl; obtain rfl:=eqz c35; exact aG (bM hg c23 rfl))
 constructor<;>intro c36
 intro e; (try simp only[e,Kn.eta,Pi.eta,Pu.eta,Rg.eta,Sc.eta,Sc.eta_r,Sc.eta_k,Sc.eta_2,-eq_self]); clear e
 intro e; (try simp only[e,Kn.eta,Pi.eta,Pu.eta,Rg.eta,Sc.eta,Sc.eta_r,Sc.eta_k,Sc.eta_2,-eq_self]); clear e
 ·(obtain rfl:=eqz c22; have hg:=bE c0 c1 c2 c3 (l:=64) rfl; obtain rfl:=eqz c36; exact aG (bM hg c23 rfl))
 constructor<;>intro c37
 intro e; (try simp only[e,Kn.eta,Pi.eta,Pu.eta,Rg.eta,Sc.eta,Sc.eta_r,Sc.eta_k,Sc.eta_2,-eq_self]); clear e
 ·(obtain rfl:=eqz c22; have hg:=bE c0 c1 c2 c3 (l:=64) rfl; obtain rfl:=eqz c37; exact aG (bM hg c23 rfl))
 constructor<;>intro c38
 intro e; (try simp only[e,Kn.eta,Pi.eta,Pu.eta,Rg.eta,Sc.eta,Sc.eta_r,Sc.eta_k,Sc.eta_2,-eq_self]); clear e
 intro e; (try simp only[e,Kn.eta,Pi.eta,Pu.eta,Rg.eta,Sc.eta,Sc.eta_r,Sc.eta_k,Sc.eta_2,-eq_self]); clear e
 ·(obtain rfl:=eqz c22; have hg:=bE c0 c1 c2 c3 (l:=64) rfl; obtain rfl:=eqz c38; exact aG (bM hg c23 rfl))
 constructor<;>intro c39
 intro e; (try simp only[e,Kn.eta,Pi.eta,Pu.eta,Rg.eta,Sc.eta,Sc.eta_r,Sc.eta_k,Sc.eta_2,-eq_self]); clear e
 intro e; (try simp only[e,Kn.eta,Pi.eta,Pu.eta,Rg.eta,Sc.eta,Sc.eta_r,Sc.eta_k,Sc.eta_2,-eq_self]); clear e
 ·(obtain rfl:=eqz c22; have hg:=bE c0 c1 c2 c3 (l:=64) rfl; obtain rfl:=eqz c39; exact aG (bM hg c23 rfl))
 ·(have h2:=of_decide_eq_false c2; have h3:=of_decide_eq_false c3; have h10:=nez c24; have h11:=nez c26; have h12:=nez c28; have h13:=nez c30; have h14:=nez c31; have h15:=nez c32; have h16:=nez c33; have h17:=nez c34; have h18:=nez c35; have h19:=nez c36; have h20:=nez c37; have h21:=nez c38; have h22:=nez c39; omega)
 intro e; (try simp only[e,Kn.eta,Pi.eta,Pu.eta,Rg.eta,Sc.eta,Sc.eta_r,Sc.eta_k,Sc.eta_2,-eq_self]); clear e
 ·exact aG (rR (kd_w c4 c22))
 intro e; (try simp only[e,Kn.eta,Pi.eta,Pu.eta,Rg.eta,Sc.eta,Sc.eta_r,Sc.eta_k,Sc.eta_2,-eq_self]); clear e
 ·exact aG (rR (kd_b c1))
 intro e; (try simp only[e,Kn.eta,Pi.eta,Pu.eta,Rg.eta,Sc.eta,Sc.eta_r,Sc.eta_k,Sc.eta_2,-eq_self]); clear e
 ·exact aG (rR (kd_a c0))
theorem akE {sp:Spec} {key:Nat} (hF:sp.F key=rq) (hP:sp.pre key=fun _=>True:=by rfl):SmOk Tryz.prog sp (abK key):=
 an (s:=abK key) hF hP (by kernel_rfl) bW (smc (lG rfl) (smc (pn rfl) (smc (abT rfl) (smc (abU rfl) (smc (tV rfl) (smc (ip rfl) (smc (ait rfl) (smc (abS rfl) (smc (akD rfl) (smc (ais rfl) (smc (aiq rfl) (smc (aio rfl) (smc (aip rfl) sm0))))))))))))) Tryz.func189 fn0 akn (.inl rfl) (fun x0 gx0 x1 gx1 x2 gx2 x3 gx3 x4 gx4 x5 gx5 hp ρ g=>aj5 x0 gx0 x1 gx1 ⟨x2,x3⟩ ⟨gx2,gx3⟩ ⟨x4,x5⟩ ⟨gx4,gx5⟩ ρ g)
end Go.Proofs.YtfkhblmeioiciaaGreatDoor
