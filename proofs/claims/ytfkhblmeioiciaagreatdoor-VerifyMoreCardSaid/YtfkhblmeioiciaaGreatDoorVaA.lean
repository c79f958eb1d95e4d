import Derived.Test.YtfkhblmeioiciaaGreatDoorXbZ
import Derived.Test.YtfkhblmeioiciaaGreatDoorProg
import Derived.Laws.Externs
set_option maxRecDepth 100000
set_option maxHeartbeats 8000000
set_option linter.defProp false
set_option linter.unusedVariables false
set_option linter.unusedSimpArgs false
namespace Go.Proofs.YtfkhblmeioiciaaGreatDoor
open Go.RowKit Go.ChangeShapes Go.WideShapes
theorem Kn.eta (a:Kn):(⟨a.v,a.m⟩:Kn)=a:=rfl
def Kn.ok (a:Kn):Prop:=inK .u64 a.v=true/\inK .u64 a.m=true
def kKn:List CK:=[.int .u64,.int .u64]
theorem Sc.eta (a:Sc):(⟨a.ul,a.uh,a.sl,a.sh,a.v,a.m⟩:Sc)=a:=rfl
def Sc.ok (a:Sc):Prop:=inK .u64 a.ul=true/\inK .u64 a.uh=true/\inK .i64 a.sl=true/\inK .i64 a.sh=true/\inK .u64 a.v=true/\inK .u64 a.m=true
def kSc:List CK:=[.int .u64,.int .u64,.int .i64,.int .i64,.int .u64,.int .u64]
def tys_VaA:List (Nat×TI):=[(2,tiq2),
 (42,fP),
 (44,ic),
 (46,kD),
 (48,ahz)]
theorem acP:(tys_VaA.all fun p=>ckTI Tryz.prog p.1 p.2)=true:=by kernel_rfl
theorem tG:(tys_VaA.all fun p=>!p.2.eqok)=true:=by kernel_rfl
theorem acv:(tys_VaA.all fun p=>!p.2.keyok)=true:=by kernel_rfl
theorem bT:∀t i,(t,i)∈tys_VaA->TIok Tryz.prog t i:=by
 intro t i h
 refine bE (cC (f:=ckTI Tryz.prog) acP h) (fun he=> ?_) (fun he=> ?_) (fun he=> ?_)
 ·have h1:=thm7.1 tG (t,i) h
  simp[he] at h1
 ·have h1:=thm7.1 tG (t,i) h
  simp[he] at h1
 ·have h1:=thm7.1 acv (t,i) h
  simp[he] at h1
def iM (key:Nat):Sm:=⟨173,key,[.agg kKn],[.one .bool],false⟩
def iL (a:Kn):List Dt:=[.z (b2i (kmay a))]
def cU:List Dt->List Dt
 | [.z x0,.z x1]=>iL ⟨x0,x1⟩
 | _=>[]
def sT_kmay:Tr:=
(.leaf (.cb (.eq (.bin .and .u64 (.var 0) (.var 1)) (.lit 0)) .nil))
def aeO:Spec:={F:=fun k=>match k with | _=>fun _=>[],pre:=fun _ _=>True}
theorem ann:ap tys_VaA [] [] [] [] 200 Tryz.f173 [.agg kKn] [.one .bool] false [.int .u64,.int .u64] sT_kmay:=⟨by kernel_rfl,by kernel_rfl,by kernel_rfl⟩
theorem amG (a:Kn) (ha:Kn.ok a) (U:Env) (g:varsD U 0 [.int .u64,.int .u64]=[.z a.v,.z a.m]):sT_kmay.asks aeO (fun U e=>e.D U=cU [.z a.v,.z a.m]) U fun _ _=>False:=by
 simp only[varsD,varD,thm5,gS0,Nat.reduceAdd,and_true] at g
 simp only[sT_kmay,aeO,cU,iL,simQ,af,S1,Nat.reduceSub,Nat.reduceAdd,-eq_self,Kn.eta,Sc.eta_r,Sc.eta_k,Sc.eta_2,g]
 ·rfl
theorem oz:Tryz.prog.follows .mixedOrders=true:=by kernel_rfl
theorem nD {sp:Spec} {key:Nat} (hF:sp.F key=cU) (hP:sp.pre key=fun _=>True:=by rfl):SmOk Tryz.prog sp (iM key):=
 au (s:=iM key) hF hP oz bT (sm0) Tryz.func173 fn0 ann (.inl rfl) (fun x0 gx0 x1 gx1 hp U g=>amG ⟨x0,x1⟩ ⟨gx0,gx1⟩ U g)
def iN (key:Nat):Sm:=⟨192,key,[],[.agg kKn],false⟩
def cV:List Dt->List Dt
 | []=>[.z kall.v,.z kall.m]
 | _=>[]
def sT_kall:Tr:=
(.leaf (.cons (.lit 0) (.cons (.lit 18446744073709551615) .nil)))
def aeR:Spec:={F:=fun k=>match k with | _=>fun _=>[],pre:=fun _ _=>True}
theorem anq:ap tys_VaA [] [] [] [] 200 Tryz.f192 [] [.agg kKn] false [] sT_kall:=⟨by kernel_rfl,by kernel_rfl,by kernel_rfl⟩
theorem amJ (U:Env) (g:varsD U 0 []=[]):sT_kall.asks aeR (fun U e=>e.D U=cV []) U fun _ _=>False:=by
 simp only[sT_kall,aeR,cV,simQ,af,S1,Nat.reduceSub,Nat.reduceAdd,-eq_self,Sc.eta_r,Sc.eta_k,Sc.eta_2]
 ·rfl
theorem nE {sp:Spec} {key:Nat} (hF:sp.F key=cV) (hP:sp.pre key=fun _=>True:=by rfl):SmOk Tryz.prog sp (iN key):=
 au (s:=iN key) hF hP oz bT (sm0) Tryz.func192 fn0 anq (.inl rfl) (fun hp U g=>amJ U g)
def nt (key:Nat):Sm:=⟨141,key,[.one (.int .u64)],[.agg kKn],false⟩
def mS (v:Int):List Dt:=[.z ((kone v).v),.z ((kone v).m)]
def fw:List Dt->List Dt
 | [.z x0]=>mS x0
 | _=>[]
def sT_kone:Tr:=
(.leaf (.cons (.var 0) (.cons (.lit 0) .nil)))
def aeM:Spec:={F:=fun k=>match k with | _=>fun _=>[],pre:=fun _ _=>True}
theorem anl:ap tys_VaA [] [] [] [] 200 Tryz.f141 [.one (.int .u64)] [.agg kKn] false [.int .u64] sT_kone:=⟨by kernel_rfl,by kernel_rfl,by kernel_rfl⟩
theorem amE (v:Int) (hv:inK .u64 v=true) (U:Env) (g:varsD U 0 [.int .u64]=[.z v]):sT_kone.asks aeM (fun U e=>e.D U=fw [.z v]) U fun _ _=>False:=by
 simp only[varsD,varD,thm5,gS0,Nat.reduceAdd,and_true] at g
 simp only[sT_kone,aeM,fw,mS,simQ,af,S1,Nat.reduceSub,Nat.reduceAdd,-eq_self,Sc.eta_r,Sc.eta_k,Sc.eta_2,g]
 ·rfl
theorem xy {sp:Spec} {key:Nat} (hF:sp.F key=fw) (hP:sp.pre key=fun _=>True:=by rfl):SmOk Tryz.prog sp (nt key):=
 au (s:=nt key) hF hP oz bT (sm0) Tryz.func141 fn0 anl (.inl rfl) (fun x0 gx0 hp U g=>amE x0 gx0 U g)
def ed (key:Nat):Sm:=⟨202,key,[.one (.int .u64),.one (.int .u64)],[.agg kKn],false⟩
def ea (v:Int) (m:Int):List Dt:=[.z ((lU v m).v),.z ((lU v m).m)]
def bI:List Dt->List Dt
 | [.z x0,.z x1]=>ea x0 x1
 | _=>[]
def sT_kmask:Tr:=
(.leaf (.cons (.bin .andNot .u64 (.var 0) (.var 1)) (.cons (.var 1) .nil)))
def zt:Spec:={F:=fun k=>match k with | _=>fun _=>[],pre:=fun _ _=>True}
theorem aiL:ap tys_VaA [] [] [] [] 200 Tryz.f202 [.one (.int .u64),.one (.int .u64)] [.agg kKn] false [.int .u64,.int .u64] sT_kmask:=⟨by kernel_rfl,by kernel_rfl,by kernel_rfl⟩
theorem aih (v:Int) (hv:inK .u64 v=true) (m:Int) (hm:inK .u64 m=true) (U:Env) (g:varsD U 0 [.int .u64,.int .u64]=[.z v,.z m]):sT_kmask.asks zt (fun U e=>e.D U=bI [.z v,.z m]) U fun _ _=>False:=by
 simp only[varsD,varD,thm5,gS0,Nat.reduceAdd,and_true] at g
 simp only[sT_kmask,zt,bI,ea,simQ,af,S1,Nat.reduceSub,Nat.reduceAdd,-eq_self,Sc.eta_r,Sc.eta_k,Sc.eta_2,g]
 ·rfl
theorem gT {sp:Spec} {key:Nat} (hF:sp.F key=bI) (hP:sp.pre key=fun _=>True:=by rfl):SmOk Tryz.prog sp (ed key):=
 au (s:=ed key) hF hP oz bT (sm0) Tryz.func202 fn0 aiL (.inl rfl) (fun x0 gx0 x1 gx1 hp U g=>aih x0 gx0 x1 gx1 U g)
def mh (key:Nat):Sm:=⟨154,key,[.agg kKn,.agg kKn],[.agg kKn],false⟩
def mc (a:Kn) (b:Kn):List Dt:=[.z ((sC a b).v),.z ((sC a b).m)]
def fy:List Dt->List Dt
 | [.z x0,.z x1,.z x2,.z x3]=>mc ⟨x0,x1⟩ ⟨x2,x3⟩
 | _=>[]
def sT_kjoin:Tr:=
(.call 0 [.bool] (.vs 0 2 .nil) 4
(.br (.bw 4)
(.call 0 [.bool] (.vs 2 2 .nil) 5
(.br (.bw 5)
(.call 2 (kKn) (.cons (.var 0) (.cons (.bin .or .u64 (.bin .or .u64 (.var 1) (.var 3)) (.bin .xor .u64 (.var 0) (.var 2))) .nil)) 6
(.leaf (.vs 6 2 .nil)))
(.call 1 (kKn) .nil 6
(.leaf (.vs 6 2 .nil)))))
(.call 1 (kKn) .nil 5
(.leaf (.vs 5 2 .nil)))))
def zu:Spec:={F:=fun k=>match k with | 0=>cU | 1=>cV | 2=>bI | _=>fun _=>[],pre:=fun _ _=>True}
theorem aiM:ap tys_VaA [iM 0,iN 1,ed 2] [] [] [] 200 Tryz.f154 [.agg kKn,.agg kKn] [.agg kKn] false [.int .u64,.int .u64,.int .u64,.int .u64] sT_kjoin:=⟨by kernel_rfl,by kernel_rfl,by kernel_rfl⟩
def aF:=And.intro Kn.eta (And.intro Pi.eta (And.intro Pu.eta (And.intro Rg.eta (And.intro Sc.eta (And.intro Sc.eta_r (And.intro Sc.eta_k (Sc.eta_2)))))))
theorem aii (a:Kn) (ha:Kn.ok a) (b:Kn) (hb:Kn.ok b) (U:Env) (g:varsD U 0 [.int .u64,.int .u64,.int .u64,.int .u64]=[.z a.v,.z a.m,.z b.v,.z b.m]):sT_kjoin.asks zu (fun U e=>e.D U=fy [.z a.v,.z a.m,.z b.v,.z b.m]) U fun _ _=>False:=by
 simp only[varsD,varD,thm5,gS0,Nat.reduceAdd,and_true] at g
 simp only[sT_kjoin,zu,kKn,cU,cV,bI,iL,ea,fy,mc,simQ,af,S1,Nat.reduceSub,Nat.reduceAdd,-eq_self,aF,g]
 intro e;(try simp only[e,aF,-eq_self]);clear e
 constructor<;>intro c0
 intro e;(try simp only[e,aF,-eq_self]);clear e
 constructor<;>intro c1
 intro e;(try simp only[e,aF,-eq_self]);clear e
 ·(unfold sC;simp_all [opI])
 intro e;(try simp only[e,aF,-eq_self]);clear e
 ·(unfold sC;simp_all [opI])
 intro e;(try simp only[e,aF,-eq_self]);clear e
 ·(unfold sC;simp_all [opI])
theorem zG {sp:Spec} {key:Nat} (hF:sp.F key=fy) (hP:sp.pre key=fun _=>True:=by rfl):SmOk Tryz.prog sp (mh key):=
 au (s:=mh key) hF hP oz bT (smc (nD rfl) (smc (nE rfl) (smc (gT rfl) sm0))) Tryz.func154 fn0 aiM (.inl rfl) (fun x0 gx0 x1 gx1 x2 gx2 x3 gx3 hp U g=>aii ⟨x0,x1⟩ ⟨gx0,gx1⟩ ⟨x2,x3⟩ ⟨gx2,gx3⟩ U g)
def mg (key:Nat):Sm:=⟨150,key,[.agg kKn,.agg kKn],[.agg kKn,.one .bool],true⟩
def lZ (a:Kn) (b:Kn):List Dt:=[.z ((oE a b).v),.z ((oE a b).m),.z (b2i (iA a b))]
def fx:List Dt->List Dt
 | [.z x0,.z x1,.z x2,.z x3]=>lZ ⟨x0,x1⟩ ⟨x2,x3⟩
 | _=>[]
def alB:Tr:=(.call 1 (kKn) .nil 6
(.leaf (.vs 6 2 (.cb (.tt false) .nil))))
def sT_kmeet:Tr:=
(.call 0 [.bool] (.vs 0 2 .nil) 4
(.br (.bw 4)
(.call 0 [.bool] (.vs 2 2 .nil) 5
(.br (.bw 5)
(.br (.eq (.bin .andNot .u64 (.bin .xor .u64 (.var 0) (.var 2)) (.bin .or .u64 (.var 1) (.var 3))) (.lit 0))
(.call 2 (kKn) (.cons (.bin .or .u64 (.var 0) (.var 2)) (.cons (.bin .and .u64 (.var 1) (.var 3)) .nil)) 6
(.leaf (.vs 6 2 (.cb (.tt true) .nil))))
 alB)
 alB))
(.call 1 (kKn) .nil 5
(.leaf (.vs 5 2 (.cb (.tt false) .nil))))))
def zq:Spec:={F:=fun k=>match k with | 0=>cU | 1=>cV | 2=>bI | _=>fun _=>[],pre:=fun _ _=>True}
theorem aiK:ap tys_VaA [iM 0,iN 1,ed 2] [] [] [] 200 Tryz.f150 [.agg kKn,.agg kKn] [.agg kKn,.one .bool] true [.int .u64,.int .u64,.int .u64,.int .u64] sT_kmeet:=⟨by kernel_rfl,by kernel_rfl,by kernel_rfl⟩
theorem aig (a:Kn) (ha:Kn.ok a) (b:Kn) (hb:Kn.ok b) (U:Env) (g:varsD U 0 [.int .u64,.int .u64,.int .u64,.int .u64]=[.z a.v,.z a.m,.z b.v,.z b.m]):sT_kmeet.asks zq (fun U e=>e.D U=fx [.z a.v,.z a.m,.z b.v,.z b.m]) U fun _ _=>False:=by
 simp only[varsD,varD,thm5,gS0,Nat.reduceAdd,and_true] at g
 simp only[sT_kmeet,alB,zq,kKn,cU,cV,bI,iL,ea,fx,lZ,simQ,af,S1,Nat.reduceSub,Nat.reduceAdd,-eq_self,aF,g]
 intro e;(try simp only[e,aF,-eq_self]);clear e
 constructor<;>intro c0
 intro e;(try simp only[e,aF,-eq_self]);clear e
 constructor<;>intro c1
 constructor<;>intro c2
 intro e;(try simp only[e,aF,-eq_self]);clear e
 ·(unfold oE iA agh;simp_all [opI])
 intro e;(try simp only[e,aF,-eq_self]);clear e
 ·(unfold oE iA agh;simp_all [opI])
 intro e;(try simp only[e,aF,-eq_self]);clear e
 ·(unfold oE iA agh;simp_all [opI])
 intro e;(try simp only[e,aF,-eq_self]);clear e
 ·(unfold oE iA agh;simp_all [opI])
theorem zF {sp:Spec} {key:Nat} (hF:sp.F key=fx) (hP:sp.pre key=fun _=>True:=by rfl):SmOk Tryz.prog sp (mg key):=
 au (s:=mg key) hF hP oz bT (smc (nD rfl) (smc (nE rfl) (smc (gT rfl) sm0))) Tryz.func150 fn0 aiK (.inl rfl) (fun x0 gx0 x1 gx1 x2 gx2 x3 gx3 hp U g=>aig ⟨x0,x1⟩ ⟨gx0,gx1⟩ ⟨x2,x3⟩ ⟨gx2,gx3⟩ U g)
def nB (key:Nat):Sm:=⟨64,key,[.one (.int .u64),.one (.int .i8)],[.one (.int .u64)],false⟩
def mX (x:Int) (l:Int):List Dt:=[.z (zcut x l)]
def kR:List Dt->List Dt
 | [.z x0,.z x1]=>mX x0 x1
 | _=>[]
theorem amQ (x:Int) (hx:inK .u64 x=true) (l:Int) (hl:inK .i8 l=true):(∀w,Calls Tryz.prog 64 #[.int .u64 x,.int .i8 l] w fun e w'=>e=.returned (.int .u64 (zcut x l))/\Ext w w')/\iI (.int .u64 (zcut x l))=true:=by
 have g:=cy hx
 have hz:=qm (kz x l g.1 g.2)
 exact⟨fun W=>(agM x l W g.1 g.2).mono (by rintro e w' ⟨rfl,rfl⟩;exact⟨rfl,Ext.refl _⟩),hz⟩
theorem anY {sp:Spec} {key:Nat} (hF:sp.F key=kR):SmOk Tryz.prog sp (nB key):=by
 refine SmOk.pure hF rfl rfl fun xs vals w h=> ?_
 obtain⟨_,_,_,rfl,⟨x0,rfl,rfl,gx0⟩,h⟩:=h
 obtain⟨_,_,_,rfl,⟨x1,rfl,rfl,gx1⟩,h⟩:=h
 obtain⟨rfl,rfl⟩:=h
 have q:=amQ x0 gx0 x1 gx1
 refine⟨_,.inr ⟨dd Tryz.func64 (by kernel_rfl) (by kernel_rfl) _ w,q.1 w⟩,?_,fun U v0 nid j he=> ?_⟩
 ·have q2:=q.2
  simp[iI,gD,gN] at q2
  simp[nB,kR,mX,List.flatMap_cons,List.flatMap_nil,Sh.cks,List.append_nil,List.cons_append,List.nil_append,b2i_one,fc,q2]
 ·simp only[nB,kR,mX,List.flatMap_cons,List.flatMap_nil,Sh.cks,List.append_nil,List.cons_append,List.nil_append,b2i_one,eqs,dI,dB,bK,lS,bn,Nat.add_zero,Nat.reduceAdd,and_true] at he
  simp[nB,kR,mX,List.flatMap_cons,List.flatMap_nil,Sh.cks,List.append_nil,List.cons_append,List.nil_append,b2i_one,eZ,bk,aE,V.den,C.den,denL,den0,bD,E.I,E.B,he]
def rM (key:Nat):Sm:=⟨226,key,[.agg kKn,.one (.int .i8)],[.agg kKn],false⟩
def qX (a:Kn) (l:Int):List Dt:=[.z ((kcut a l).v),.z ((kcut a l).m)]
def iX:List Dt->List Dt
 | [.z x0,.z x1,.z x2]=>qX ⟨x0,x1⟩ x2
 | _=>[]
def sT_kcut:Tr:=
(.call 0 [.bool] (.vs 0 2 .nil) 3
(.br (.bw 3)
(.call 2 [.int .u64] (.cons (.var 0) (.cons (.var 2) .nil)) 4
(.call 2 [.int .u64] (.vs 1 2 .nil) 5
(.leaf (.vs 4 2 .nil))))
(.call 1 (kKn) .nil 4
(.leaf (.vs 4 2 .nil)))))
def aeP:Spec:={F:=fun k=>match k with | 0=>cU | 1=>cV | 2=>kR | _=>fun _=>[],pre:=fun _ _=>True}
theorem ano:ap tys_VaA [iM 0,iN 1,nB 2] [] [] [] 200 Tryz.f226 [.agg kKn,.one (.int .i8)] [.agg kKn] false [.int .u64,.int .u64,.int .i8] sT_kcut:=⟨by kernel_rfl,by kernel_rfl,by kernel_rfl⟩
theorem amH (a:Kn) (ha:Kn.ok a) (l:Int) (hl:inK .i8 l=true) (U:Env) (g:varsD U 0 [.int .u64,.int .u64,.int .i8]=[.z a.v,.z a.m,.z l]):sT_kcut.asks aeP (fun U e=>e.D U=iX [.z a.v,.z a.m,.z l]) U fun _ _=>False:=by
 simp only[varsD,varD,thm5,gS0,Nat.reduceAdd,and_true] at g
 simp only[sT_kcut,aeP,kKn,cU,cV,kR,iL,mX,iX,qX,simQ,af,S1,Nat.reduceSub,Nat.reduceAdd,-eq_self,aF,g]
 intro e;(try simp only[e,aF,-eq_self]);clear e
 constructor<;>intro c0
 intro e;(try simp only[e,aF,-eq_self]);clear e
 intro e;(try simp only[e,aF,-eq_self]);clear e
 ·(unfold kcut;simp_all)
 intro e;(try simp only[e,aF,-eq_self]);clear e
 ·(unfold kcut;simp_all)
theorem aft {sp:Spec} {key:Nat} (hF:sp.F key=iX) (hP:sp.pre key=fun _=>True:=by rfl):SmOk Tryz.prog sp (rM key):=
 au (s:=rM key) hF hP oz bT (smc (nD rfl) (smc (nE rfl) (smc (anY rfl) sm0))) Tryz.func226 fn0 ano (.inl rfl) (fun x0 gx0 x1 gx1 x2 gx2 hp U g=>amH ⟨x0,x1⟩ ⟨gx0,gx1⟩ x2 gx2 U g)
def fl (key:Nat):Sm:=⟨108,key,[.agg kSc],[.one .bool],false⟩
def fk (a:Sc):List Dt:=[.z (b2i (vmay a))]
def bU:List Dt->List Dt
 | [.z x0,.z x1,.z x2,.z x3,.z x4,.z x5]=>fk ⟨x0,x1,x2,x3,x4,x5⟩
 | _=>[]
def sT_vmay:Tr:=
(.call 0 [.bool] (.vs 0 4 .nil) 6
(.br (.bw 6)
(.call 1 [.bool] (.vs 4 2 .nil) 7
(.leaf (.cb (.bw 7) .nil)))
(.leaf (.cb (.tt false) .nil))))
def aep:Spec:={F:=fun k=>match k with | 0=>cF | 1=>cU | _=>fun _=>[],pre:=fun _ _=>True}
theorem amX:ap tys_VaA [ir 0,iM 1] [] [] [] 200 Tryz.f108 [.agg kSc] [.one .bool] false [.int .u64,.int .u64,.int .i64,.int .i64,.int .u64,.int .u64] sT_vmay:=⟨by kernel_rfl,by kernel_rfl,by kernel_rfl⟩
theorem amh (a:Sc) (ha:Sc.ok a) (U:Env) (g:varsD U 0 [.int .u64,.int .u64,.int .i64,.int .i64,.int .u64,.int .u64]=[.z a.ul,.z a.uh,.z a.sl,.z a.sh,.z a.v,.z a.m]):sT_vmay.asks aep (fun U e=>e.D U=bU [.z a.ul,.z a.uh,.z a.sl,.z a.sh,.z a.v,.z a.m]) U fun _ _=>False:=by
 simp only[varsD,varD,thm5,gS0,Nat.reduceAdd,and_true] at g
 simp only[sT_vmay,aep,cF,cU,iq,iL,bU,fk,simQ,af,S1,Nat.reduceSub,Nat.reduceAdd,-eq_self,aF,g]
 intro e;(try simp only[e,aF,-eq_self]);clear e
 constructor<;>intro c0
 intro e;(try simp only[e,aF,-eq_self]);clear e
 ·(unfold vmay;simp_all)
 ·(unfold vmay;simp_all)
theorem iO {sp:Spec} {key:Nat} (hF:sp.F key=bU) (hP:sp.pre key=fun _=>True:=by rfl):SmOk Tryz.prog sp (fl key):=
 au (s:=fl key) hF hP oz bT (smc (lE rfl) (smc (nD rfl) sm0)) Tryz.func108 fn0 amX (.inl rfl) (fun x0 gx0 x1 gx1 x2 gx2 x3 gx3 x4 gx4 x5 gx5 hp U g=>amh ⟨x0,x1,x2,x3,x4,x5⟩ ⟨gx0,gx1,gx2,gx3,gx4,gx5⟩ U g)
def fZ (key:Nat):Sm:=⟨148,key,[],[.agg kSc],false⟩
def ct:List Dt->List Dt
 | []=>[.z vall.ul,.z vall.uh,.z vall.sl,.z vall.sh,.z vall.v,.z vall.m]
 | _=>[]
def sT_vall:Tr:=
(.call 0 (kRg) .nil 0
(.call 1 (kKn) .nil 4
(.leaf (.vs 0 6 .nil))))
def aex:Spec:={F:=fun k=>match k with | 0=>bv | 1=>cV | _=>fun _=>[],pre:=fun _ _=>True}
theorem am5:ap tys_VaA [dH 0,iN 1] [] [] [] 200 Tryz.f148 [] [.agg kSc] false [] sT_vall:=⟨by kernel_rfl,by kernel_rfl,by kernel_rfl⟩
theorem amp (U:Env) (g:varsD U 0 []=[]):sT_vall.asks aex (fun U e=>e.D U=ct []) U fun _ _=>False:=by
 simp only[sT_vall,aex,kKn,kRg,bv,cV,ct,simQ,af,S1,Nat.reduceSub,Nat.reduceAdd,-eq_self,aF]
 intro e;(try simp only[e,aF,-eq_self]);clear e
 intro e;(try simp only[e,aF,-eq_self]);clear e
 ·rfl
theorem kM {sp:Spec} {key:Nat} (hF:sp.F key=ct) (hP:sp.pre key=fun _=>True:=by rfl):SmOk Tryz.prog sp (fZ key):=
 au (s:=fZ key) hF hP oz bT (smc (eU rfl) (smc (nE rfl) sm0)) Tryz.func148 fn0 am5 (.inl rfl) (fun hp U g=>amp U g)
def kL (key:Nat):Sm:=⟨76,key,[.one (.int .u64)],[.agg kSc],false⟩
def mJ (v:Int):List Dt:=[.z ((vone v).ul),.z ((vone v).uh),.z ((vone v).sl),.z ((vone v).sh),.z ((vone v).v),.z ((vone v).m)]
def dn:List Dt->List Dt
 | [.z x0]=>mJ x0
 | _=>[]
def sT_vone:Tr:=
(.call 0 (kRg) (.cons (.var 0) .nil) 1
(.call 1 (kKn) (.cons (.var 0) .nil) 5
(.leaf (.vs 1 6 .nil))))
def aen:Spec:={F:=fun k=>match k with | 0=>uT | 1=>fw | _=>fun _=>[],pre:=fun _ _=>True}
theorem amV:ap tys_VaA [ae3 0,nt 1] [] [] [] 200 Tryz.f76 [.one (.int .u64)] [.agg kSc] false [.int .u64] sT_vone:=⟨by kernel_rfl,by kernel_rfl,by kernel_rfl⟩
theorem amf (v:Int) (hv:inK .u64 v=true) (U:Env) (g:varsD U 0 [.int .u64]=[.z v]):sT_vone.asks aen (fun U e=>e.D U=dn [.z v]) U fun _ _=>False:=by
 simp only[varsD,varD,thm5,gS0,Nat.reduceAdd,and_true] at g
 simp only[sT_vone,aen,kKn,kRg,uT,fw,ad0,mS,dn,mJ,simQ,af,S1,Nat.reduceSub,Nat.reduceAdd,-eq_self,aF,g]
 intro e;(try simp only[e,aF,-eq_self]);clear e
 intro e;(try simp only[e,aF,-eq_self]);clear e
 ·rfl
theorem rT {sp:Spec} {key:Nat} (hF:sp.F key=dn) (hP:sp.pre key=fun _=>True:=by rfl):SmOk Tryz.prog sp (kL key):=
 au (s:=kL key) hF hP oz bT (smc (aqa rfl) (smc (xy rfl) sm0)) Tryz.func76 fn0 amV (.inl rfl) (fun x0 gx0 hp U g=>amf x0 gx0 U g)
def kK (key:Nat):Sm:=⟨235,key,[.agg kSc],[.one (.int .u64),.one .bool],true⟩
def kI (a:Sc):List Dt:=[.z (kC a),.z (b2i (ahu a))]
def eV:List Dt->List Dt
 | [.z x0,.z x1,.z x2,.z x3,.z x4,.z x5]=>kI ⟨x0,x1,x2,x3,x4,x5⟩
 | _=>[]
def sT_vsingle:Tr:=
(.call 0 [.bool] (.vs 0 6 .nil) 6
(.br (.bw 6)
(.call 1 [.int .u64,.bool] (.vs 0 4 .nil) 7
(.leaf (.cons (.var 7) (.cb (.bw 8) .nil))))
(.leaf (.cons (.lit 0) (.cb (.tt false) .nil)))))
def pp:Spec:={F:=fun k=>match k with | 0=>bU | 1=>cE | _=>fun _=>[],pre:=fun _ _=>True}
theorem aa7:ap tys_VaA [fl 0,ge 1] [] [] [] 200 Tryz.f235 [.agg kSc] [.one (.int .u64),.one .bool] true [.int .u64,.int .u64,.int .i64,.int .i64,.int .u64,.int .u64] sT_vsingle:=⟨by kernel_rfl,by kernel_rfl,by kernel_rfl⟩
theorem aa5 (a:Sc) (ha:Sc.ok a) (U:Env) (g:varsD U 0 [.int .u64,.int .u64,.int .i64,.int .i64,.int .u64,.int .u64]=[.z a.ul,.z a.uh,.z a.sl,.z a.sh,.z a.v,.z a.m]):sT_vsingle.asks pp (fun U e=>e.D U=eV [.z a.ul,.z a.uh,.z a.sl,.z a.sh,.z a.v,.z a.m]) U fun _ _=>False:=by
 simp only[varsD,varD,thm5,gS0,Nat.reduceAdd,and_true] at g
 simp only[sT_vsingle,pp,bU,cE,fk,fX,eV,kI,simQ,af,S1,Nat.reduceSub,Nat.reduceAdd,-eq_self,aF,g]
 intro e;(try simp only[e,aF,-eq_self]);clear e
 constructor<;>intro c0
 intro e;(try simp only[e,aF,-eq_self]);clear e
 ·(unfold kC ahu;simp_all)
 ·(unfold kC ahu;simp_all)
theorem aa9 {sp:Spec} {key:Nat} (hF:sp.F key=eV) (hP:sp.pre key=fun _=>True:=by rfl):SmOk Tryz.prog sp (kK key):=
 au (s:=kK key) hF hP oz bT (smc (iO rfl) (smc (nC rfl) sm0)) Tryz.func235 fn0 aa7 (.inl rfl) (fun x0 gx0 x1 gx1 x2 gx2 x3 gx3 x4 gx4 x5 gx5 hp U g=>aa5 ⟨x0,x1,x2,x3,x4,x5⟩ ⟨gx0,gx1,gx2,gx3,gx4,gx5⟩ U g)
end Go.Proofs.YtfkhblmeioiciaaGreatDoor
