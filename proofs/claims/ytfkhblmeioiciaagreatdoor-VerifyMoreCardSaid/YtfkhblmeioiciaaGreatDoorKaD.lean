import Derived.Test.YtfkhblmeioiciaaGreatDoorVaA
import Derived.Test.YtfkhblmeioiciaaGreatDoorProg
import Derived.Laws.Externs
set_option maxRecDepth 100000
set_option maxHeartbeats 8000000
set_option linter.defProp false
set_option linter.unusedVariables false
set_option linter.unusedSimpArgs false
namespace Go.Proofs.YtfkhblmeioiciaaGreatDoor
open Go.RowKit Go.ChangeShapes Go.WideShapes
def tys_KaD:List (Nat×TI):=[(37,ig),
 (42,fP),
 (46,kD),
 (196,⟨false,1,[.nf],[],none,none,false,false,none,8,true,none,false,0⟩),
 (245,⟨true,13,[.nf,.nf,.nf,.nf,.nf,.nf,.nf,.nf,.nf,.nf,.nf,.nf,.nf],[],some (13,196),none,false,false,none,104,false,none,false,0⟩)]
theorem acW:(tys_KaD.all fun p=>ckTI Tryz.prog p.1 p.2)=true:=by kernel_rfl
theorem tN:(tys_KaD.all fun p=>!p.2.eqok)=true:=by kernel_rfl
theorem acC:(tys_KaD.all fun p=>!p.2.keyok)=true:=by kernel_rfl
theorem cD:∀t i,(t,i)∈tys_KaD->TIok Tryz.prog t i:=by
 intro t i h
 refine bE (cC (f:=ckTI Tryz.prog) acW h) (fun he=> ?_) (fun he=> ?_) (fun he=> ?_)
 ·have h1:=thm7.1 tN (t,i) h
  simp[he] at h1
 ·have h1:=thm7.1 tN (t,i) h
  simp[he] at h1
 ·have h1:=thm7.1 acC (t,i) h
  simp[he] at h1
def rN (key:Nat):Sm:=⟨243,key,[.one (.int .u64),.one (.int .u64),.agg kKn,.agg kKn],[.agg kKn],false⟩
def qY (v:Int) (x:Int) (a:Kn) (b:Kn):List Dt:=[.z ((lU v (bits .or .u64 (bits .or .u64 (bits .xor .u64 v x) a.m) b.m)).v),.z ((lU v (bits .or .u64 (bits .or .u64 (bits .xor .u64 v x) a.m) b.m)).m)]
def jM:List Dt->List Dt
 | [.z x0,.z x1,.z x2,.z x3,.z x4,.z x5]=>qY x0 x1 ⟨x2,x3⟩ ⟨x4,x5⟩
 | _=>[]
def sT_kcarr:Tr:=
(.call 0 (kKn) (.cons (.var 0) (.cons (.bin .or .u64 (.bin .or .u64 (.bin .xor .u64 (.var 0) (.var 1)) (.var 3)) (.var 5)) .nil)) 6
(.leaf (.vs 6 2 .nil)))
def zv:Spec:={F:=fun k=>match k with | 0=>bI | _=>fun _=>[],pre:=fun _ _=>True}
theorem aiN:ap tys_KaD [ed 0] [] [] [] 200 Tryz.f243 [.one (.int .u64),.one (.int .u64),.agg kKn,.agg kKn] [.agg kKn] false [.int .u64,.int .u64,.int .u64,.int .u64,.int .u64,.int .u64] sT_kcarr:=⟨by kernel_rfl,by kernel_rfl,by kernel_rfl⟩
def aj:=And.intro Kn.eta (And.intro Pi.eta (And.intro Pu.eta (And.intro Rg.eta (And.intro Sc.eta (And.intro Sc.eta_r (And.intro Sc.eta_k (Sc.eta_2)))))))
theorem aij (v:Int) (hv:inK .u64 v=true) (x:Int) (hx:inK .u64 x=true) (a:Kn) (ha:Kn.ok a) (b:Kn) (hb:Kn.ok b) (U:Env) (g:varsD U 0 [.int .u64,.int .u64,.int .u64,.int .u64,.int .u64,.int .u64]=[.z v,.z x,.z a.v,.z a.m,.z b.v,.z b.m]):sT_kcarr.asks zv (fun U e=>e.D U=jM [.z v,.z x,.z a.v,.z a.m,.z b.v,.z b.m]) U fun _ _=>False:=by
 simp only[varsD,varD,thm5,gS0,Nat.reduceAdd,and_true] at g
 simp only[sT_kcarr,zv,kKn,bI,ea,jM,qY,simQ,af,S1,Nat.reduceSub,Nat.reduceAdd,-eq_self,aj,g]
 intro e;(try simp only[e,aj,-eq_self]);clear e
 ·rfl
theorem sr:Tryz.prog.follows .mixedOrders=true:=by kernel_rfl
theorem ai9 {sp:Spec} {key:Nat} (hF:sp.F key=jM) (hP:sp.pre key=fun _=>True:=by rfl):SmOk Tryz.prog sp (rN key):=
 au (s:=rN key) hF hP sr cD (smc (gT rfl) sm0) Tryz.func243 fn0 aiN (.inl rfl) (fun x0 gx0 x1 gx1 x2 gx2 x3 gx3 x4 gx4 x5 gx5 hp U g=>aij x0 gx0 x1 gx1 ⟨x2,x3⟩ ⟨gx2,gx3⟩ ⟨x4,x5⟩ ⟨gx4,gx5⟩ U g)
def xp (key:Nat):Sm:=⟨227,key,[.agg kKn,.agg kKn],[.agg kKn],false⟩
def wO (a:Kn) (b:Kn):List Dt:=[.z ((kadd a b).v),.z ((kadd a b).m)]
def nW:List Dt->List Dt
 | [.z x0,.z x1,.z x2,.z x3]=>wO ⟨x0,x1⟩ ⟨x2,x3⟩
 | _=>[]
def sT_kadd:Tr:=
(.call 0 (kKn) (.cons (.bin .add .u64 (.var 0) (.var 2)) (.cons (.bin .add .u64 (.bin .add .u64 (.var 1) (.var 3)) (.bin .add .u64 (.var 0) (.var 2))) (.vs 0 4 .nil))) 4
(.leaf (.vs 4 2 .nil)))
def aeS:Spec:={F:=fun k=>match k with | 0=>jM | _=>fun _=>[],pre:=fun _ _=>True}
theorem anr:ap tys_KaD [rN 0] [] [] [] 200 Tryz.f227 [.agg kKn,.agg kKn] [.agg kKn] false [.int .u64,.int .u64,.int .u64,.int .u64] sT_kadd:=⟨by kernel_rfl,by kernel_rfl,by kernel_rfl⟩
theorem amK (a:Kn) (ha:Kn.ok a) (b:Kn) (hb:Kn.ok b) (U:Env) (g:varsD U 0 [.int .u64,.int .u64,.int .u64,.int .u64]=[.z a.v,.z a.m,.z b.v,.z b.m]):sT_kadd.asks aeS (fun U e=>e.D U=nW [.z a.v,.z a.m,.z b.v,.z b.m]) U fun _ _=>False:=by
 simp only[varsD,varD,thm5,gS0,Nat.reduceAdd,and_true] at g
 simp only[sT_kadd,aeS,kKn,jM,qY,nW,wO,simQ,af,S1,Nat.reduceSub,Nat.reduceAdd,-eq_self,aj,g]
 intro e;(try simp only[e,aj,-eq_self]);clear e
 ·(unfold kadd;rfl)
theorem anS {sp:Spec} {key:Nat} (hF:sp.F key=nW) (hP:sp.pre key=fun _=>True:=by rfl):SmOk Tryz.prog sp (xp key):=
 au (s:=xp key) hF hP sr cD (smc (ai9 rfl) sm0) Tryz.func227 fn0 anr (.inl rfl) (fun x0 gx0 x1 gx1 x2 gx2 x3 gx3 hp U g=>amK ⟨x0,x1⟩ ⟨gx0,gx1⟩ ⟨x2,x3⟩ ⟨gx2,gx3⟩ U g)
def rL (key:Nat):Sm:=⟨228,key,[.agg kKn,.agg kKn],[.agg kKn],false⟩
def qW (a:Kn) (b:Kn):List Dt:=[.z ((ksub a b).v),.z ((ksub a b).m)]
def iW:List Dt->List Dt
 | [.z x0,.z x1,.z x2,.z x3]=>qW ⟨x0,x1⟩ ⟨x2,x3⟩
 | _=>[]
def sT_ksub:Tr:=
(.call 0 (kKn) (.cons (.bin .sub .u64 (.var 0) (.var 2)) (.cons (.bin .or .u64 (.bin .or .u64 (.bin .xor .u64 (.bin .add .u64 (.bin .sub .u64 (.var 0) (.var 2)) (.var 1)) (.bin .sub .u64 (.bin .sub .u64 (.var 0) (.var 2)) (.var 3))) (.var 1)) (.var 3)) .nil)) 4
(.leaf (.vs 4 2 .nil)))
def aeK:Spec:={F:=fun k=>match k with | 0=>bI | _=>fun _=>[],pre:=fun _ _=>True}
theorem anj:ap tys_KaD [ed 0] [] [] [] 200 Tryz.f228 [.agg kKn,.agg kKn] [.agg kKn] false [.int .u64,.int .u64,.int .u64,.int .u64] sT_ksub:=⟨by kernel_rfl,by kernel_rfl,by kernel_rfl⟩
theorem amC (a:Kn) (ha:Kn.ok a) (b:Kn) (hb:Kn.ok b) (U:Env) (g:varsD U 0 [.int .u64,.int .u64,.int .u64,.int .u64]=[.z a.v,.z a.m,.z b.v,.z b.m]):sT_ksub.asks aeK (fun U e=>e.D U=iW [.z a.v,.z a.m,.z b.v,.z b.m]) U fun _ _=>False:=by
 simp only[varsD,varD,thm5,gS0,Nat.reduceAdd,and_true] at g
 simp only[sT_ksub,aeK,kKn,bI,ea,iW,qW,simQ,af,S1,Nat.reduceSub,Nat.reduceAdd,-eq_self,aj,g]
 intro e;(try simp only[e,aj,-eq_self]);clear e
 ·(unfold ksub;rfl)
theorem afs {sp:Spec} {key:Nat} (hF:sp.F key=iW) (hP:sp.pre key=fun _=>True:=by rfl):SmOk Tryz.prog sp (rL key):=
 au (s:=rL key) hF hP sr cD (smc (gT rfl) sm0) Tryz.func228 fn0 anj (.inl rfl) (fun x0 gx0 x1 gx1 x2 gx2 x3 gx3 hp U g=>amC ⟨x0,x1⟩ ⟨gx0,gx1⟩ ⟨x2,x3⟩ ⟨gx2,gx3⟩ U g)
def xm (key:Nat):Sm:=⟨231,key,[.agg kKn,.agg kKn],[.agg kKn],false⟩
def wM (a:Kn) (b:Kn):List Dt:=[.z ((ksub (kone 0) a).v),.z ((ksub (kone 0) a).m)]
def nU:List Dt->List Dt
 | [.z x0,.z x1,.z x2,.z x3]=>wM ⟨x0,x1⟩ ⟨x2,x3⟩
 | _=>[]
def sT_kneg:Tr:=
(.call 0 (kKn) (.cons (.lit 0) .nil) 4
(.call 1 (kKn) (.vs 4 2 (.vs 0 2 .nil)) 6
(.leaf (.vs 6 2 .nil))))
def aeN:Spec:={F:=fun k=>match k with | 0=>fw | 1=>iW | _=>fun _=>[],pre:=fun _ _=>True}
theorem anm:ap tys_KaD [nt 0,rL 1] [] [] [] 200 Tryz.f231 [.agg kKn,.agg kKn] [.agg kKn] false [.int .u64,.int .u64,.int .u64,.int .u64] sT_kneg:=⟨by kernel_rfl,by kernel_rfl,by kernel_rfl⟩
theorem amF (a:Kn) (ha:Kn.ok a) (b:Kn) (hb:Kn.ok b) (U:Env) (g:varsD U 0 [.int .u64,.int .u64,.int .u64,.int .u64]=[.z a.v,.z a.m,.z b.v,.z b.m]):sT_kneg.asks aeN (fun U e=>e.D U=nU [.z a.v,.z a.m,.z b.v,.z b.m]) U fun _ _=>False:=by
 simp only[varsD,varD,thm5,gS0,Nat.reduceAdd,and_true] at g
 simp only[sT_kneg,aeN,kKn,fw,iW,mS,qW,nU,wM,simQ,af,S1,Nat.reduceSub,Nat.reduceAdd,-eq_self,aj,g]
 intro e;(try simp only[e,aj,-eq_self]);clear e
 intro e;(try simp only[e,aj,-eq_self]);clear e
 ·rfl
theorem anQ {sp:Spec} {key:Nat} (hF:sp.F key=nU) (hP:sp.pre key=fun _=>True:=by rfl):SmOk Tryz.prog sp (xm key):=
 au (s:=xm key) hF hP sr cD (smc (xy rfl) (smc (afs rfl) sm0)) Tryz.func231 fn0 anm (.inl rfl) (fun x0 gx0 x1 gx1 x2 gx2 x3 gx3 hp U g=>amF ⟨x0,x1⟩ ⟨gx0,gx1⟩ ⟨x2,x3⟩ ⟨gx2,gx3⟩ U g)
def xo (key:Nat):Sm:=⟨230,key,[.agg kKn,.agg kKn],[.agg kKn],false⟩
def wN (a:Kn) (b:Kn):List Dt:=[.z ((kand a b).v),.z ((kand a b).m)]
def nV:List Dt->List Dt
 | [.z x0,.z x1,.z x2,.z x3]=>wN ⟨x0,x1⟩ ⟨x2,x3⟩
 | _=>[]
def sT_kand:Tr:=
(.leaf (.cons (.bin .and .u64 (.var 0) (.var 2)) (.cons (.bin .andNot .u64 (.bin .and .u64 (.bin .or .u64 (.var 0) (.var 1)) (.bin .or .u64 (.var 2) (.var 3))) (.bin .and .u64 (.var 0) (.var 2))) .nil)))
def aeQ:Spec:={F:=fun k=>match k with | _=>fun _=>[],pre:=fun _ _=>True}
theorem anp:ap tys_KaD [] [] [] [] 200 Tryz.f230 [.agg kKn,.agg kKn] [.agg kKn] false [.int .u64,.int .u64,.int .u64,.int .u64] sT_kand:=⟨by kernel_rfl,by kernel_rfl,by kernel_rfl⟩
theorem amI (a:Kn) (ha:Kn.ok a) (b:Kn) (hb:Kn.ok b) (U:Env) (g:varsD U 0 [.int .u64,.int .u64,.int .u64,.int .u64]=[.z a.v,.z a.m,.z b.v,.z b.m]):sT_kand.asks aeQ (fun U e=>e.D U=nV [.z a.v,.z a.m,.z b.v,.z b.m]) U fun _ _=>False:=by
 simp only[varsD,varD,thm5,gS0,Nat.reduceAdd,and_true] at g
 simp only[sT_kand,aeQ,nV,wN,simQ,af,S1,Nat.reduceSub,Nat.reduceAdd,-eq_self,Kn.eta,Sc.eta_r,Sc.eta_k,Sc.eta_2,g]
 ·rfl
theorem anR {sp:Spec} {key:Nat} (hF:sp.F key=nV) (hP:sp.pre key=fun _=>True:=by rfl):SmOk Tryz.prog sp (xo key):=
 au (s:=xo key) hF hP sr cD (sm0) Tryz.func230 fn0 anp (.inl rfl) (fun x0 gx0 x1 gx1 x2 gx2 x3 gx3 hp U g=>amI ⟨x0,x1⟩ ⟨gx0,gx1⟩ ⟨x2,x3⟩ ⟨gx2,gx3⟩ U g)
def ae4 (key:Nat):Sm:=⟨229,key,[.agg kKn,.agg kKn],[.agg kKn],false⟩
def ad1 (a:Kn) (b:Kn):List Dt:=[.z ((kor a b).v),.z ((kor a b).m)]
def uV:List Dt->List Dt
 | [.z x0,.z x1,.z x2,.z x3]=>ad1 ⟨x0,x1⟩ ⟨x2,x3⟩
 | _=>[]
def sT_kor:Tr:=
(.leaf (.cons (.bin .or .u64 (.var 0) (.var 2)) (.cons (.bin .andNot .u64 (.bin .or .u64 (.var 1) (.var 3)) (.bin .or .u64 (.var 0) (.var 2))) .nil)))
def ako:Spec:={F:=fun k=>match k with | _=>fun _=>[],pre:=fun _ _=>True}
theorem apU:ap tys_KaD [] [] [] [] 200 Tryz.f229 [.agg kKn,.agg kKn] [.agg kKn] false [.int .u64,.int .u64,.int .u64,.int .u64] sT_kor:=⟨by kernel_rfl,by kernel_rfl,by kernel_rfl⟩
theorem apz (a:Kn) (ha:Kn.ok a) (b:Kn) (hb:Kn.ok b) (U:Env) (g:varsD U 0 [.int .u64,.int .u64,.int .u64,.int .u64]=[.z a.v,.z a.m,.z b.v,.z b.m]):sT_kor.asks ako (fun U e=>e.D U=uV [.z a.v,.z a.m,.z b.v,.z b.m]) U fun _ _=>False:=by
 simp only[varsD,varD,thm5,gS0,Nat.reduceAdd,and_true] at g
 simp only[sT_kor,ako,uV,ad1,simQ,af,S1,Nat.reduceSub,Nat.reduceAdd,-eq_self,Kn.eta,Sc.eta_r,Sc.eta_k,Sc.eta_2,g]
 ·rfl
theorem aqd {sp:Spec} {key:Nat} (hF:sp.F key=uV) (hP:sp.pre key=fun _=>True:=by rfl):SmOk Tryz.prog sp (ae4 key):=
 au (s:=ae4 key) hF hP sr cD (sm0) Tryz.func229 fn0 apU (.inl rfl) (fun x0 gx0 x1 gx1 x2 gx2 x3 gx3 hp U g=>apz ⟨x0,x1⟩ ⟨gx0,gx1⟩ ⟨x2,x3⟩ ⟨gx2,gx3⟩ U g)
def xk (key:Nat):Sm:=⟨232,key,[.agg kKn,.agg kKn],[.agg kKn],false⟩
def wK (a:Kn) (b:Kn):List Dt:=[.z ((kxor a b).v),.z ((kxor a b).m)]
def nS:List Dt->List Dt
 | [.z x0,.z x1,.z x2,.z x3]=>wK ⟨x0,x1⟩ ⟨x2,x3⟩
 | _=>[]
def sT_kxor:Tr:=
(.call 0 (kKn) (.cons (.bin .xor .u64 (.var 0) (.var 2)) (.cons (.bin .or .u64 (.var 1) (.var 3)) .nil)) 4
(.leaf (.vs 4 2 .nil)))
def aeJ:Spec:={F:=fun k=>match k with | 0=>bI | _=>fun _=>[],pre:=fun _ _=>True}
theorem ani:ap tys_KaD [ed 0] [] [] [] 200 Tryz.f232 [.agg kKn,.agg kKn] [.agg kKn] false [.int .u64,.int .u64,.int .u64,.int .u64] sT_kxor:=⟨by kernel_rfl,by kernel_rfl,by kernel_rfl⟩
theorem amB (a:Kn) (ha:Kn.ok a) (b:Kn) (hb:Kn.ok b) (U:Env) (g:varsD U 0 [.int .u64,.int .u64,.int .u64,.int .u64]=[.z a.v,.z a.m,.z b.v,.z b.m]):sT_kxor.asks aeJ (fun U e=>e.D U=nS [.z a.v,.z a.m,.z b.v,.z b.m]) U fun _ _=>False:=by
 simp only[varsD,varD,thm5,gS0,Nat.reduceAdd,and_true] at g
 simp only[sT_kxor,aeJ,kKn,bI,ea,nS,wK,simQ,af,S1,Nat.reduceSub,Nat.reduceAdd,-eq_self,aj,g]
 intro e;(try simp only[e,aj,-eq_self]);clear e
 ·rfl
theorem anO {sp:Spec} {key:Nat} (hF:sp.F key=nS) (hP:sp.pre key=fun _=>True:=by rfl):SmOk Tryz.prog sp (xk key):=
 au (s:=xk key) hF hP sr cD (smc (gT rfl) sm0) Tryz.func232 fn0 ani (.inl rfl) (fun x0 gx0 x1 gx1 x2 gx2 x3 gx3 hp U g=>amB ⟨x0,x1⟩ ⟨gx0,gx1⟩ ⟨x2,x3⟩ ⟨gx2,gx3⟩ U g)
def xl (key:Nat):Sm:=⟨233,key,[.agg kKn,.agg kKn],[.agg kKn],false⟩
def wL (a:Kn) (b:Kn):List Dt:=[.z b.v,.z b.m]
def nT:List Dt->List Dt
 | [.z x0,.z x1,.z x2,.z x3]=>wL ⟨x0,x1⟩ ⟨x2,x3⟩
 | _=>[]
def sT_ksec:Tr:=
(.leaf (.vs 2 2 .nil))
def aeL:Spec:={F:=fun k=>match k with | _=>fun _=>[],pre:=fun _ _=>True}
theorem ank:ap tys_KaD [] [] [] [] 200 Tryz.f233 [.agg kKn,.agg kKn] [.agg kKn] false [.int .u64,.int .u64,.int .u64,.int .u64] sT_ksec:=⟨by kernel_rfl,by kernel_rfl,by kernel_rfl⟩
theorem amD (a:Kn) (ha:Kn.ok a) (b:Kn) (hb:Kn.ok b) (U:Env) (g:varsD U 0 [.int .u64,.int .u64,.int .u64,.int .u64]=[.z a.v,.z a.m,.z b.v,.z b.m]):sT_ksec.asks aeL (fun U e=>e.D U=nT [.z a.v,.z a.m,.z b.v,.z b.m]) U fun _ _=>False:=by
 simp only[varsD,varD,thm5,gS0,Nat.reduceAdd,and_true] at g
 simp only[sT_ksec,aeL,nT,wL,simQ,af,S1,Nat.reduceSub,Nat.reduceAdd,-eq_self,Kn.eta,Sc.eta_r,Sc.eta_k,Sc.eta_2,g]
 ·rfl
theorem anP {sp:Spec} {key:Nat} (hF:sp.F key=nT) (hP:sp.pre key=fun _=>True:=by rfl):SmOk Tryz.prog sp (xl key):=
 au (s:=xl key) hF hP sr cD (sm0) Tryz.func233 fn0 ank (.inl rfl) (fun x0 gx0 x1 gx1 x2 gx2 x3 gx3 hp U g=>amD ⟨x0,x1⟩ ⟨gx0,gx1⟩ ⟨x2,x3⟩ ⟨gx2,gx3⟩ U g)
def ae5 (key:Nat):Sm:=⟨189,key,[.one (.int .i8),.one (.int .i8),.agg kKn,.agg kKn],[.agg kKn],false⟩
def ad2 (op:Int) (l:Int) (a:Kn) (b:Kn):List Dt:=[.z ((kdo op l a b).v),.z ((kdo op l a b).m)]
def uW:List Dt->List Dt
 | [.z x0,.z x1,.z x2,.z x3,.z x4,.z x5]=>ad2 x0 x1 ⟨x2,x3⟩ ⟨x4,x5⟩
 | _=>[]
def sR:Tr:=(.call 2 (kKn) (.vs 14 2 (.cons (.var 1) .nil)) 16
(.leaf (.vs 16 2 .nil)))
def abV:Tr:=(.call 2 (kKn) (.vs 12 2 (.cons (.var 1) .nil)) 14
(.leaf (.vs 14 2 .nil)))
def alx:E:=(.cons (.bin .and .u64 (.var 10) (.bin .sub .u64 (.conv .u64 (.var 1)) (.lit 1))) .nil)
def aho:Tr:=(.br (.eq (.bin .and .u64 (.var 11) (.bin .sub .u64 (.conv .u64 (.var 1)) (.lit 1))) (.lit 0))
(.call 3 [.int .u64,.int .i64] (.vs 0 2 (.cons (.var 8) alx)) 14
(.call 3 [.int .u64,.int .i64] (.vs 0 2 (.cons (.var 9) alx)) 16
(.call 5 (kKn) (.cons (.var 14) (.cons (.var 16) .nil)) 18
(.call 2 (kKn) (.vs 18 2 (.cons (.var 1) .nil)) 20
(.leaf (.vs 20 2 .nil))))))
 abV)
def aly:Tr:=(.call 2 (kKn) (.vs 2 2 (.cons (.var 1) .nil)) 8
(.call 2 (kKn) (.vs 4 2 (.cons (.var 1) .nil)) 10
(.br (.eq (.bin .or .u64 (.var 9) (.var 11)) (.lit 0))
(.call 3 [.int .u64,.int .i64] (.vs 0 2 (.cons (.var 8) (.cons (.var 10) .nil))) 12
(.call 4 (kKn) (.cons (.var 12) .nil) 14
(.leaf (.vs 14 2 .nil))))
(.call 1 (kKn) .nil 12
(.br (.eq (.var 0) (.lit 6))
 aho
(.br (.eq (.var 0) (.lit 7))
 aho
(.br (.eq (.var 0) (.lit 12))
 aho
(.br (.eq (.var 0) (.lit 0))
(.call 6 (kKn) (.vs 8 4 .nil) 14
 sR)
(.br (.eq (.var 0) (.lit 1))
(.call 7 (kKn) (.vs 8 4 .nil) 14
 sR)
(.br (.eq (.var 0) (.lit 2))
 abV
(.br (.eq (.var 0) (.lit 3))
 abV
(.br (.eq (.var 0) (.lit 4))
(.call 8 (kKn) (.vs 8 4 .nil) 14
 sR)
(.br (.eq (.var 0) (.lit 5))
(.call 9 (kKn) (.vs 8 4 .nil) 14
 sR)
(.br (.eq (.var 0) (.lit 8))
(.call 10 (kKn) (.vs 8 4 .nil) 14
 sR)
(.br (.eq (.var 0) (.lit 9))
 abV
(.br (.eq (.var 0) (.lit 10))
(.call 11 (kKn) (.vs 8 4 .nil) 14
 sR)
(.br (.eq (.var 0) (.lit 11))
(.call 12 (kKn) (.vs 8 4 .nil) 14
 sR)
.panic)))))))))))))))))
def sT_kdo:Tr:=
(.call 0 [.bool] (.vs 2 2 .nil) 6
(.br (.bw 6)
(.call 0 [.bool] (.vs 4 2 .nil) 7
(.br (.bw 7)
(.br (.lt (.var 0) (.lit 0))
(.call 1 (kKn) .nil 8
(.leaf (.vs 8 2 .nil)))
(.br (.lt (.lit 12) (.var 0))
(.call 1 (kKn) .nil 8
(.leaf (.vs 8 2 .nil)))
(.br (.eq (.var 1) (.lit 32))
 aly
(.br (.eq (.var 1) (.lit 64))
 aly
(.call 1 (kKn) .nil 8
(.leaf (.vs 8 2 .nil)))))))
(.call 1 (kKn) .nil 8
(.leaf (.vs 8 2 .nil)))))
(.call 1 (kKn) .nil 7
(.leaf (.vs 7 2 .nil)))))
def akp:Spec:={F:=fun k=>match k with | 0=>cU | 1=>cV | 2=>iX | 3=>kQ | 4=>fw | 5=>bI | 6=>nW | 7=>iW | 8=>uV | 9=>nV | 10=>nU | 11=>nS | 12=>nT | _=>fun _=>[],pre:=fun _ _=>True}
theorem apV:ap tys_KaD [iM 0,iN 1,rM 2,nA 3,nt 4,ed 5,xp 6,rL 7,ae4 8,xo 9,xm 10,xk 11,xl 12] [] [] [] 200 Tryz.f189 [.one (.int .i8),.one (.int .i8),.agg kKn,.agg kKn] [.agg kKn] false [.int .i8,.int .i8,.int .u64,.int .u64,.int .u64,.int .u64] sT_kdo:=⟨by kernel_rfl,by kernel_rfl,by kernel_rfl⟩
theorem apA (op:Int) (hop:inK .i8 op=true) (l:Int) (hl:inK .i8 l=true) (a:Kn) (ha:Kn.ok a) (b:Kn) (hb:Kn.ok b) (U:Env) (g:varsD U 0 [.int .i8,.int .i8,.int .u64,.int .u64,.int .u64,.int .u64]=[.z op,.z l,.z a.v,.z a.m,.z b.v,.z b.m]):sT_kdo.asks akp (fun U e=>e.D U=uW [.z op,.z l,.z a.v,.z a.m,.z b.v,.z b.m]) U fun _ _=>False:=by
 simp only[varsD,varD,thm5,gS0,Nat.reduceAdd,and_true] at g
 simp only[sT_kdo,aly,aho,alx,abV,sR,akp,kKn,cU,cV,iX,kQ,fw,bI,nW,iW,uV,nV,nU,nS,nT,iL,qX,mW,mS,ea,wO,qW,ad1,wN,wM,wK,wL,uW,ad2,simQ,af,S1,Nat.reduceSub,Nat.reduceAdd,-eq_self,aj,g]
 intro e;(try simp only[e,aj,-eq_self]);clear e
 constructor<;>intro c0
 intro e;(try simp only[e,aj,-eq_self]);clear e
 constructor<;>intro c1
 constructor<;>intro c2
 intro e;(try simp only[e,aj,-eq_self]);clear e
 ·exact aO (vC (arT c2))
 constructor<;>intro c3
 intro e;(try simp only[e,aj,-eq_self]);clear e
 ·exact aO (vC (arU c3))
 constructor<;>intro c4
 intro e;(try simp only[e,aj,-eq_self]);clear e
 intro e;(try simp only[e,aj,-eq_self]);clear e
 constructor<;>intro c5
 intro e;(try simp only[e,aj,-eq_self]);clear e
 intro e;(try simp only[e,aj,-eq_self]);clear e
 ·(obtain rfl:=eqz c4;have hg:=ce c0 c1 c2 c3 (l:=32) rfl;exact aO (akI hg c5))
 intro e;(try simp only[e,aj,-eq_self]);clear e
 constructor<;>intro c6
 constructor<;>intro c7
 intro e;(try simp only[e,aj,-eq_self]);clear e
 intro e;(try simp only[e,aj,-eq_self]);clear e
 intro e;(try simp only[e,aj,-eq_self]);clear e
 intro e;(try simp only[e,aj,-eq_self]);clear e
 ·(obtain rfl:=eqz c4;have hg:=ce c0 c1 c2 c3 (l:=32) rfl;obtain rfl:=eqz c6;exact aO (cn hg c5 (abn (by decide) c7)))
 intro e;(try simp only[e,aj,-eq_self]);clear e
 ·(obtain rfl:=eqz c4;have hg:=ce c0 c1 c2 c3 (l:=32) rfl;obtain rfl:=eqz c6;exact aO (cn hg c5 (abo (by decide) c7)))
 constructor<;>intro c8
 constructor<;>intro c9
 intro e;(try simp only[e,aj,-eq_self]);clear e
 intro e;(try simp only[e,aj,-eq_self]);clear e
 intro e;(try simp only[e,aj,-eq_self]);clear e
 intro e;(try simp only[e,aj,-eq_self]);clear e
 ·(obtain rfl:=eqz c4;have hg:=ce c0 c1 c2 c3 (l:=32) rfl;obtain rfl:=eqz c8;exact aO (cn hg c5 (abn (by decide) c9)))
 intro e;(try simp only[e,aj,-eq_self]);clear e
 ·(obtain rfl:=eqz c4;have hg:=ce c0 c1 c2 c3 (l:=32) rfl;obtain rfl:=eqz c8;exact aO (cn hg c5 (abo (by decide) c9)))
 constructor<;>intro c10
 constructor<;>intro c11
 intro e;(try simp only[e,aj,-eq_self]);clear e
 intro e;(try simp only[e,aj,-eq_self]);clear e
 intro e;(try simp only[e,aj,-eq_self]);clear e
 intro e;(try simp only[e,aj,-eq_self]);clear e
 ·(obtain rfl:=eqz c4;have hg:=ce c0 c1 c2 c3 (l:=32) rfl;obtain rfl:=eqz c10;exact aO (cn hg c5 (abn (by decide) c11)))
 intro e;(try simp only[e,aj,-eq_self]);clear e
 ·(obtain rfl:=eqz c4;have hg:=ce c0 c1 c2 c3 (l:=32) rfl;obtain rfl:=eqz c10;exact aO (cn hg c5 (abo (by decide) c11)))
 constructor<;>intro c12
 intro e;(try simp only[e,aj,-eq_self]);clear e
 intro e;(try simp only[e,aj,-eq_self]);clear e
 ·(obtain rfl:=eqz c4;have hg:=ce c0 c1 c2 c3 (l:=32) rfl;obtain rfl:=eqz c12;exact aO (cn hg c5 rfl))
 constructor<;>intro c13
 intro e;(try simp only[e,aj,-eq_self]);clear e
 intro e;(try simp only[e,aj,-eq_self]);clear e
 ·(obtain rfl:=eqz c4;have hg:=ce c0 c1 c2 c3 (l:=32) rfl;obtain rfl:=eqz c13;exact aO (cn hg c5 rfl))
 constructor<;>intro c14
 intro e;(try simp only[e,aj,-eq_self]);clear e
 ·(obtain rfl:=eqz c4;have hg:=ce c0 c1 c2 c3 (l:=32) rfl;obtain rfl:=eqz c14;exact aO (cn hg c5 rfl))
 constructor<;>intro c15
 intro e;(try simp only[e,aj,-eq_self]);clear e
 ·(obtain rfl:=eqz c4;have hg:=ce c0 c1 c2 c3 (l:=32) rfl;obtain rfl:=eqz c15;exact aO (cn hg c5 rfl))
 constructor<;>intro c16
 intro e;(try simp only[e,aj,-eq_self]);clear e
 intro e;(try simp only[e,aj,-eq_self]);clear e
 ·(obtain rfl:=eqz c4;have hg:=ce c0 c1 c2 c3 (l:=32) rfl;obtain rfl:=eqz c16;exact aO (cn hg c5 rfl))
 constructor<;>intro c17
 intro e;(try simp only[e,aj,-eq_self]);clear e
 intro e;(try simp only[e,aj,-eq_self]);clear e
 ·(obtain rfl:=eqz c4;have hg:=ce c0 c1 c2 c3 (l:=32) rfl;obtain rfl:=eqz c17;exact aO (cn hg c5 rfl))
 constructor<;>intro c18
 intro e;(try simp only[e,aj,-eq_self]);clear e
 intro e;(try simp only[e,aj,-eq_self]);clear e
 ·(obtain rfl:=eqz c4;have hg:=ce c0 c1 c2 c3 (l:=32) rfl;obtain rfl:=eqz c18;exact aO (cn hg c5 rfl))
 constructor<;>intro c19
 intro e;(try simp only[e,aj,-eq_self]);clear e
 ·(obtain rfl:=eqz c4;have hg:=ce c0 c1 c2 c3 (l:=32) rfl;obtain rfl:=eqz c19;exact aO (cn hg c5 rfl))
 constructor<;>intro c20
 intro e;(try simp only[e,aj,-eq_self]);clear e
 intro e;(try simp only[e,aj,-eq_self]);clear e
 ·(obtain rfl:=eqz c4;have hg:=ce c0 c1 c2 c3 (l:=32) rfl;obtain rfl:=eqz c20;exact aO (cn hg c5 rfl))
 constructor<;>intro c21
 intro e;(try simp only[e,aj,-eq_self]);clear e
 intro e;(try simp only[e,aj,-eq_self]);clear e
 ·(obtain rfl:=eqz c4;have hg:=ce c0 c1 c2 c3 (l:=32) rfl;obtain rfl:=eqz c21;exact aO (cn hg c5 rfl))
 ·(have h2:=thm2 c2;have h3:=thm2 c3;have h10:=nez c6;have h11:=nez c8;have h12:=nez c10;have h13:=nez c12;have h14:=nez c13;have h15:=nez c14;have h16:=nez c15;have h17:=nez c16;have h18:=nez c17;have h19:=nez c18;have h20:=nez c19;have h21:=nez c20;have h22:=nez c21;omega)
 constructor<;>intro c22
 intro e;(try simp only[e,aj,-eq_self]);clear e
 intro e;(try simp only[e,aj,-eq_self]);clear e
 constructor<;>intro c23
 intro e;(try simp only[e,aj,-eq_self]);clear e
 intro e;(try simp only[e,aj,-eq_self]);clear e
 ·(obtain rfl:=eqz c22;have hg:=ce c0 c1 c2 c3 (l:=64) rfl;exact aO (akI hg c23))
 intro e;(try simp only[e,aj,-eq_self]);clear e
 constructor<;>intro c24
 constructor<;>intro c25
 intro e;(try simp only[e,aj,-eq_self]);clear e
 intro e;(try simp only[e,aj,-eq_self]);clear e
 intro e;(try simp only[e,aj,-eq_self]);clear e
 intro e;(try simp only[e,aj,-eq_self]);clear e
 ·(obtain rfl:=eqz c22;have hg:=ce c0 c1 c2 c3 (l:=64) rfl;obtain rfl:=eqz c24;exact aO (cn hg c23 (abn (by decide) c25)))
 intro e;(try simp only[e,aj,-eq_self]);clear e
 ·(obtain rfl:=eqz c22;have hg:=ce c0 c1 c2 c3 (l:=64) rfl;obtain rfl:=eqz c24;exact aO (cn hg c23 (abo (by decide) c25)))
 constructor<;>intro c26
 constructor<;>intro c27
 intro e;(try simp only[e,aj,-eq_self]);clear e
 intro e;(try simp only[e,aj,-eq_self]);clear e
 intro e;(try simp only[e,aj,-eq_self]);clear e
 intro e;(try simp only[e,aj,-eq_self]);clear e
 ·(obtain rfl:=eqz c22;have hg:=ce c0 c1 c2 c3 (l:=64) rfl;obtain rfl:=eqz c26;exact aO (cn hg c23 (abn (by decide) c27)))
 intro e;(try simp only[e,aj,-eq_self]);clear e
 ·(obtain rfl:=eqz c22;have hg:=ce c0 c1 c2 c3 (l:=64) rfl;obtain rfl:=eqz c26;exact aO (cn hg c23 (abo (by decide) c27)))
 constructor<;>intro c28
 constructor<;>intro c29
 intro e;(try simp only[e,aj,-eq_self]);clear e
 intro e;(try simp only[e,aj,-eq_self]);clear e
 intro e;(try simp only[e,aj,-eq_self]);clear e
 intro e;(try simp only[e,aj,-eq_self]);clear e
 ·(obtain rfl:=eqz c22;have hg:=ce c0 c1 c2 c3 (l:=64) rfl;obtain rfl:=eqz c28;exact aO (cn hg c23 (abn (by decide) c29)))
 intro e;(try simp only[e,aj,-eq_self]);clear e
 ·(obtain rfl:=eqz c22;have hg:=ce c0 c1 c2 c3 (l:=64) rfl;obtain rfl:=eqz c28;exact aO (cn hg c23 (abo (by decide) c29)))
 constructor<;>intro c30
 intro e;(try simp only[e,aj,-eq_self]);clear e
 intro e;(try simp only[e,aj,-eq_self]);clear e
 ·(obtain rfl:=eqz c22;have hg:=ce c0 c1 c2 c3 (l:=64) rfl;obtain rfl:=eqz c30;exact aO (cn hg c23 rfl))
 constructor<;>intro c31
 intro e;(try simp only[e,aj,-eq_self]);clear e
 intro e;(try simp only[e,aj,-eq_self]);clear e
 ·(obtain rfl:=eqz c22;have hg:=ce c0 c1 c2 c3 (l:=64) rfl;obtain rfl:=eqz c31;exact aO (cn hg c23 rfl))
 constructor<;>intro c32
 intro e;(try simp only[e,aj,-eq_self]);clear e
 ·(obtain rfl:=eqz c22;have hg:=ce c0 c1 c2 c3 (l:=64) rfl;obtain rfl:=eqz c32;exact aO (cn hg c23 rfl))
 constructor<;>intro c33
 intro e;(try simp only[e,aj,-eq_self]);clear e
 ·(obtain rfl:=eqz c22;have hg:=ce c0 c1 c2 c3 (l:=64) rfl;obtain rfl:=eqz c33;exact aO (cn hg c23 rfl))
 constructor<;>intro c34
 intro e;(try simp only[e,aj,-eq_self]);clear e
 intro e;(try simp only[e,aj,-eq_self]);clear e
 ·(obtain rfl:=eqz c22;have hg:=ce c0 c1 c2 c3 (l:=64) rfl;obtain rfl:=eqz c34;exact aO (cn hg c23 rfl))
 constructor<;>intro c35
 intro e;(try simp only[e,aj,-eq_self]);clear e
 intro e;(try simp only[e,aj,-eq_self]);clear e
 ·(obtain rfl:=eqz c22;have hg:=ce c0 c1 c2 c3 (l:=64) rfl;obtain rfl:=eqz c35;exact aO (cn hg c23 rfl))
 constructor<;>intro c36
 intro e;(try simp only[e,aj,-eq_self]);clear e
 intro e;(try simp only[e,aj,-eq_self]);clear e
 ·(obtain rfl:=eqz c22;have hg:=ce c0 c1 c2 c3 (l:=64) rfl;obtain rfl:=eqz c36;exact aO (cn hg c23 rfl))
 constructor<;>intro c37
 intro e;(try simp only[e,aj,-eq_self]);clear e
 ·(obtain rfl:=eqz c22;have hg:=ce c0 c1 c2 c3 (l:=64) rfl;obtain rfl:=eqz c37;exact aO (cn hg c23 rfl))
 constructor<;>intro c38
 intro e;(try simp only[e,aj,-eq_self]);clear e
 intro e;(try simp only[e,aj,-eq_self]);clear e
 ·(obtain rfl:=eqz c22;have hg:=ce c0 c1 c2 c3 (l:=64) rfl;obtain rfl:=eqz c38;exact aO (cn hg c23 rfl))
 constructor<;>intro c39
 intro e;(try simp only[e,aj,-eq_self]);clear e
 intro e;(try simp only[e,aj,-eq_self]);clear e
 ·(obtain rfl:=eqz c22;have hg:=ce c0 c1 c2 c3 (l:=64) rfl;obtain rfl:=eqz c39;exact aO (cn hg c23 rfl))
 ·(have h2:=thm2 c2;have h3:=thm2 c3;have h10:=nez c24;have h11:=nez c26;have h12:=nez c28;have h13:=nez c30;have h14:=nez c31;have h15:=nez c32;have h16:=nez c33;have h17:=nez c34;have h18:=nez c35;have h19:=nez c36;have h20:=nez c37;have h21:=nez c38;have h22:=nez c39;omega)
 intro e;(try simp only[e,aj,-eq_self]);clear e
 ·exact aO (vC (kd_w c4 c22))
 intro e;(try simp only[e,aj,-eq_self]);clear e
 ·exact aO (vC (kd_b c1))
 intro e;(try simp only[e,aj,-eq_self]);clear e
 ·exact aO (vC (kd_a c0))
theorem aqe {sp:Spec} {key:Nat} (hF:sp.F key=uW) (hP:sp.pre key=fun _=>True:=by rfl):SmOk Tryz.prog sp (ae5 key):=
 au (s:=ae5 key) hF hP sr cD (smc (nD rfl) (smc (nE rfl) (smc (aft rfl) (smc (anX rfl) (smc (xy rfl) (smc (gT rfl) (smc (anS rfl) (smc (afs rfl) (smc (aqd rfl) (smc (anR rfl) (smc (anQ rfl) (smc (anO rfl) (smc (anP rfl) sm0))))))))))))) Tryz.func189 fn0 apV (.inl rfl) (fun x0 gx0 x1 gx1 x2 gx2 x3 gx3 x4 gx4 x5 gx5 hp U g=>apA x0 gx0 x1 gx1 ⟨x2,x3⟩ ⟨gx2,gx3⟩ ⟨x4,x5⟩ ⟨gx4,gx5⟩ U g)
end Go.Proofs.YtfkhblmeioiciaaGreatDoor
