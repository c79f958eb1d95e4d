import Derived.Test.YtfkhblmeioiciaaGreatDoorXbZ
import Derived.Test.YtfkhblmeioiciaaGreatDoorProg
import Derived.Laws.Externs
set_option maxRecDepth 100000
set_option maxHeartbeats 8000000
set_option linter.unusedVariables false
set_option linter.unusedSimpArgs false
namespace Go.Proofs.YtfkhblmeioiciaaGreatDoor
open Go.RowKit Go.ChangeShapes Go.WideShapes
theorem Kn.eta (a:Kn):(⟨a.v,a.m⟩:Kn)=a:=rfl
def Kn.ok (a:Kn):Prop:=inK .u64 a.v=true/\inK .u64 a.m=true
def kKn:List CK:=[.int .u64,.int .u64]
theorem Sc.eta (a:Sc):(⟨a.ul,a.uh,a.sl,a.sh,a.v,a.m⟩:Sc)=a:=rfl
def Sc.ok (a:Sc):Prop:=inK .u64 a.ul=true/\inK .u64 a.uh=true/\inK .i64 a.sl=true/\inK .i64 a.sh=true/\inK .u64 a.v=true/\inK .u64 a.m=true
def kSc:List CK:=[.int .u64,.int .u64,.int .i64,.int .i64,.int .u64,.int .u64]
def tys_VaA:List (Nat×TI):=[(2,⟨false,1,[.int .i64 (.lit 0)],[],none,some .i64,false,false,none,8,false,none,false,0⟩),
 (42,⟨false,1,[.int .u64 (.lit 0)],[],none,some .u64,false,false,none,8,false,none,false,0⟩),
 (44,⟨true,4,(zN 4 2211),[(0,42),(1,42),(2,2),(3,2)],none,none,false,false,none,32,false,none,false,0⟩),
 (46,⟨true,2,[.int .u64 (.lit 0),.int .u64 (.lit 0)],[(0,42),(1,42)],none,none,false,false,none,16,false,none,false,0⟩),
 (48,⟨true,6,(zN 6 112211),[(0,44),(4,46)],none,none,false,false,none,48,false,none,false,0⟩)]
theorem acu:(tys_VaA.all fun p=>ckTI Tryz.prog p.1 p.2)=true:=by kernel_rfl
theorem sX:(tys_VaA.all fun p=>!p.2.eqok)=true:=by kernel_rfl
theorem ab9:(tys_VaA.all fun p=>!p.2.keyok)=true:=by kernel_rfl
theorem bV:∀t i,(t,i)∈tys_VaA->TIok Tryz.prog t i:=by
 intro t i h
 refine bC (cz (f:=ckTI Tryz.prog) acu h) (fun he=> ?_) (fun he=> ?_) (fun he=> ?_)
 ·have h1:=thm7.1 sX (t,i) h
  simp[he] at h1
 ·have h1:=thm7.1 sX (t,i) h
  simp[he] at h1
 ·have h1:=thm7.1 ab9 (t,i) h
  simp[he] at h1
def iu (key:Nat):Sm:=⟨173,key,[.agg kKn],[.one .bool],false⟩
def ir (a:Kn):List Dt:=[.z (b2i (kmay a))]
def cO:List Dt->List Dt
 | [.z x0,.z x1]=>ir ⟨x0,x1⟩
 | _=>[]
def sT_kmay:Tr:=
(.leaf (.consb (.eq (.bin .and .u64 (.var 0) (.var 1)) (.lit 0)) .nil))
def aep:Spec:={F:=fun k=>match k with | _=>fun _=>[],pre:=fun k=>match k with | _=>fun _=>True}
theorem al2:aq tys_VaA [] [] [] [] 200 Tryz.f173 [.agg kKn] [.one .bool] false [.int .u64,.int .u64] sT_kmay:=⟨by kernel_rfl,by kernel_rfl,by kernel_rfl⟩
theorem alk (a:Kn) (ha:Kn.ok a) (U:Env) (g:ab U 0 [.int .u64,.int .u64]=[.z a.v,.z a.m]):sT_kmay.asks aep (fun U e=>e.D U=cO [.z a.v,.z a.m]) U fun _ _=>False:=by
 simp only[ab,varD,thm5,Dt.z.injEq,Dt.l.injEq,b2i_eq_iff,Nat.reduceAdd,and_true] at g
 simp only[sT_kmay,aep,cO,ir,Tr.asks,ah,okDs,okD,eqs,E.I,E.B,E.L,E.R,E.D,E.vs,E.gs,E.ins,E.sv,E.tn,E.iv,E.zs,E.zr,E.sg,E.tg,E.rg,E.rgs,E.pv,Nat.reduceSub,dI,dB,dL,varD,ab,S1,Nat.reduceAdd,-eq_self,Kn.eta,Sc.eta_r,Sc.eta_k,Sc.eta_2,g]
 ·rfl
theorem nn {sp:Spec} {key:Nat} (hF:sp.F key=cO) (hP:sp.pre key=fun _=>True:=by rfl):SmOk Tryz.prog sp (iu key):=
 av (s:=iu key) hF hP (by kernel_rfl) bV (sm0) Tryz.func173 fn0 al2 (.inl rfl) (fun x0 gx0 x1 gx1 hp U g=>alk ⟨x0,x1⟩ ⟨gx0,gx1⟩ U g)
def iw (key:Nat):Sm:=⟨192,key,[],[.agg kKn],false⟩
def cP:List Dt->List Dt
 | []=>[.z kall.v,.z kall.m]
 | _=>[]
def sT_kall:Tr:=
(.leaf (.cons (.lit 0) (.cons (.lit 18446744073709551615) .nil)))
def aes:Spec:={F:=fun k=>match k with | _=>fun _=>[],pre:=fun k=>match k with | _=>fun _=>True}
theorem al5:aq tys_VaA [] [] [] [] 200 Tryz.f192 [] [.agg kKn] false [] sT_kall:=⟨by kernel_rfl,by kernel_rfl,by kernel_rfl⟩
theorem alp (U:Env) (g:ab U 0 []=[]):sT_kall.asks aes (fun U e=>e.D U=cP []) U fun _ _=>False:=by
 simp only[sT_kall,aes,cP,Tr.asks,ah,okDs,okD,eqs,E.I,E.B,E.L,E.R,E.D,E.vs,E.gs,E.ins,E.sv,E.tn,E.iv,E.zs,E.zr,E.sg,E.tg,E.rg,E.rgs,E.pv,Nat.reduceSub,dI,dB,dL,varD,ab,S1,Nat.reduceAdd,-eq_self,Sc.eta_r,Sc.eta_k,Sc.eta_2]
 ·rfl
theorem np {sp:Spec} {key:Nat} (hF:sp.F key=cP) (hP:sp.pre key=fun _=>True:=by rfl):SmOk Tryz.prog sp (iw key):=
 av (s:=iw key) hF hP (by kernel_rfl) bV (sm0) Tryz.func192 fn0 al5 (.inl rfl) (fun hp U g=>alp U g)
def nf (key:Nat):Sm:=⟨141,key,[.one (.int .u64)],[.agg kKn],false⟩
def mG (v:Int):List Dt:=[.z ((kone v).v),.z ((kone v).m)]
def ff:List Dt->List Dt
 | [.z x0]=>mG x0
 | _=>[]
def sT_kone:Tr:=
(.leaf (.cons (.var 0) (.cons (.lit 0) .nil)))
def aen:Spec:={F:=fun k=>match k with | _=>fun _=>[],pre:=fun k=>match k with | _=>fun _=>True}
theorem al0:aq tys_VaA [] [] [] [] 200 Tryz.f141 [.one (.int .u64)] [.agg kKn] false [.int .u64] sT_kone:=⟨by kernel_rfl,by kernel_rfl,by kernel_rfl⟩
theorem ali (v:Int) (hv:inK .u64 v=true) (U:Env) (g:ab U 0 [.int .u64]=[.z v]):sT_kone.asks aen (fun U e=>e.D U=ff [.z v]) U fun _ _=>False:=by
 simp only[ab,varD,thm5,Dt.z.injEq,Dt.l.injEq,b2i_eq_iff,Nat.reduceAdd,and_true] at g
 simp only[sT_kone,aen,ff,mG,Tr.asks,ah,okDs,okD,eqs,E.I,E.B,E.L,E.R,E.D,E.vs,E.gs,E.ins,E.sv,E.tn,E.iv,E.zs,E.zr,E.sg,E.tg,E.rg,E.rgs,E.pv,Nat.reduceSub,dI,dB,dL,varD,ab,S1,Nat.reduceAdd,-eq_self,Sc.eta_r,Sc.eta_k,Sc.eta_2,g]
 ·rfl
theorem wY {sp:Spec} {key:Nat} (hF:sp.F key=ff) (hP:sp.pre key=fun _=>True:=by rfl):SmOk Tryz.prog sp (nf key):=
 av (s:=nf key) hF hP (by kernel_rfl) bV (sm0) Tryz.func141 fn0 al0 (.inl rfl) (fun x0 gx0 hp U g=>ali x0 gx0 U g)
def dW (key:Nat):Sm:=⟨202,key,[.one (.int .u64),.one (.int .u64)],[.agg kKn],false⟩
def dU (v:Int) (m:Int):List Dt:=[.z ((lG v m).v),.z ((lG v m).m)]
def bG:List Dt->List Dt
 | [.z x0,.z x1]=>dU x0 x1
 | _=>[]
def sT_kmask:Tr:=
(.leaf (.cons (.bin .andNot .u64 (.var 0) (.var 1)) (.cons (.var 1) .nil)))
def yU:Spec:={F:=fun k=>match k with | _=>fun _=>[],pre:=fun k=>match k with | _=>fun _=>True}
theorem ah9:aq tys_VaA [] [] [] [] 200 Tryz.f202 [.one (.int .u64),.one (.int .u64)] [.agg kKn] false [.int .u64,.int .u64] sT_kmask:=⟨by kernel_rfl,by kernel_rfl,by kernel_rfl⟩
theorem ahF (v:Int) (hv:inK .u64 v=true) (m:Int) (hm:inK .u64 m=true) (U:Env) (g:ab U 0 [.int .u64,.int .u64]=[.z v,.z m]):sT_kmask.asks yU (fun U e=>e.D U=bG [.z v,.z m]) U fun _ _=>False:=by
 simp only[ab,varD,thm5,Dt.z.injEq,Dt.l.injEq,b2i_eq_iff,Nat.reduceAdd,and_true] at g
 simp only[sT_kmask,yU,bG,dU,Tr.asks,ah,okDs,okD,eqs,E.I,E.B,E.L,E.R,E.D,E.vs,E.gs,E.ins,E.sv,E.tn,E.iv,E.zs,E.zr,E.sg,E.tg,E.rg,E.rgs,E.pv,Nat.reduceSub,dI,dB,dL,varD,ab,S1,Nat.reduceAdd,-eq_self,Sc.eta_r,Sc.eta_k,Sc.eta_2,g]
 ·rfl
theorem gE {sp:Spec} {key:Nat} (hF:sp.F key=bG) (hP:sp.pre key=fun _=>True:=by rfl):SmOk Tryz.prog sp (dW key):=
 av (s:=dW key) hF hP (by kernel_rfl) bV (sm0) Tryz.func202 fn0 ah9 (.inl rfl) (fun x0 gx0 x1 gx1 hp U g=>ahF x0 gx0 x1 gx1 U g)
def lQ (key:Nat):Sm:=⟨154,key,[.agg kKn,.agg kKn],[.agg kKn],false⟩
def lM (a:Kn) (b:Kn):List Dt:=[.z ((rX a b).v),.z ((rX a b).m)]
def fh:List Dt->List Dt
 | [.z x0,.z x1,.z x2,.z x3]=>lM ⟨x0,x1⟩ ⟨x2,x3⟩
 | _=>[]
def sT_kjoin:Tr:=
(.call 0 [.bool] (.vs 0 2 .nil) 4
(.br (.bvar 4)
(.call 0 [.bool] (.vs 2 2 .nil) 5
(.br (.bvar 5)
(.call 2 (kKn) (.cons (.var 0) (.cons (.bin .or .u64 (.bin .or .u64 (.var 1) (.var 3)) (.bin .xor .u64 (.var 0) (.var 2))) .nil)) 6
(.leaf (.vs 6 2 .nil)))
(.call 1 (kKn) .nil 6
(.leaf (.vs 6 2 .nil)))))
(.call 1 (kKn) .nil 5
(.leaf (.vs 5 2 .nil)))))
def yV:Spec:={F:=fun k=>match k with | 0=>cO | 1=>cP | 2=>bG | _=>fun _=>[],pre:=fun k=>match k with | _=>fun _=>True}
theorem aia:aq tys_VaA [iu 0,iw 1,dW 2] [] [] [] 200 Tryz.f154 [.agg kKn,.agg kKn] [.agg kKn] false [.int .u64,.int .u64,.int .u64,.int .u64] sT_kjoin:=⟨by kernel_rfl,by kernel_rfl,by kernel_rfl⟩
set_option linter.defProp false in
def aF:=And.intro Kn.eta (And.intro Pi.eta (And.intro Pu.eta (And.intro Rg.eta (And.intro Sc.eta (And.intro Sc.eta_r (And.intro Sc.eta_k (Sc.eta_2)))))))
theorem ahG (a:Kn) (ha:Kn.ok a) (b:Kn) (hb:Kn.ok b) (U:Env) (g:ab U 0 [.int .u64,.int .u64,.int .u64,.int .u64]=[.z a.v,.z a.m,.z b.v,.z b.m]):sT_kjoin.asks yV (fun U e=>e.D U=fh [.z a.v,.z a.m,.z b.v,.z b.m]) U fun _ _=>False:=by
 simp only[ab,varD,thm5,Dt.z.injEq,Dt.l.injEq,b2i_eq_iff,Nat.reduceAdd,and_true] at g
 simp only[sT_kjoin,yV,kKn,cO,cP,bG,ir,dU,fh,lM,Tr.asks,ah,okDs,okD,eqs,E.I,E.B,E.L,E.R,E.D,E.vs,E.gs,E.ins,E.sv,E.tn,E.iv,E.zs,E.zr,E.sg,E.tg,E.rg,E.rgs,E.pv,Nat.reduceSub,dI,dB,dL,varD,ab,S1,Nat.reduceAdd,-eq_self,aF,g]
 intro e; (try simp only[e,aF,-eq_self]); clear e
 constructor<;>intro c0
 intro e; (try simp only[e,aF,-eq_self]); clear e
 constructor<;>intro c1
 intro e; (try simp only[e,aF,-eq_self]); clear e
 ·(unfold rX; simp_all [opI])
 intro e; (try simp only[e,aF,-eq_self]); clear e
 ·(unfold rX; simp_all [opI])
 intro e; (try simp only[e,aF,-eq_self]); clear e
 ·(unfold rX; simp_all [opI])
theorem zi {sp:Spec} {key:Nat} (hF:sp.F key=fh) (hP:sp.pre key=fun _=>True:=by rfl):SmOk Tryz.prog sp (lQ key):=
 av (s:=lQ key) hF hP (by kernel_rfl) bV (smc (nn rfl) (smc (np rfl) (smc (gE rfl) sm0))) Tryz.func154 fn0 aia (.inl rfl) (fun x0 gx0 x1 gx1 x2 gx2 x3 gx3 hp U g=>ahG ⟨x0,x1⟩ ⟨gx0,gx1⟩ ⟨x2,x3⟩ ⟨gx2,gx3⟩ U g)
def lP (key:Nat):Sm:=⟨150,key,[.agg kKn,.agg kKn],[.agg kKn,.one .bool],true⟩
def lL (a:Kn) (b:Kn):List Dt:=[.z ((ol a b).v),.z ((ol a b).m),.z (b2i (ia a b))]
def fg:List Dt->List Dt
 | [.z x0,.z x1,.z x2,.z x3]=>lL ⟨x0,x1⟩ ⟨x2,x3⟩
 | _=>[]
def sT_kmeet:Tr:=
(.call 0 [.bool] (.vs 0 2 .nil) 4
(.br (.bvar 4)
(.call 0 [.bool] (.vs 2 2 .nil) 5
(.br (.bvar 5)
(.br (.eq (.bin .andNot .u64 (.bin .xor .u64 (.var 0) (.var 2)) (.bin .or .u64 (.var 1) (.var 3))) (.lit 0))
(.call 2 (kKn) (.cons (.bin .or .u64 (.var 0) (.var 2)) (.cons (.bin .and .u64 (.var 1) (.var 3)) .nil)) 6
(.leaf (.vs 6 2 (.consb (.tt true) .nil))))
(.call 1 (kKn) .nil 6
(.leaf (.vs 6 2 (.consb (.tt false) .nil)))))
(.call 1 (kKn) .nil 6
(.leaf (.vs 6 2 (.consb (.tt false) .nil))))))
(.call 1 (kKn) .nil 5
(.leaf (.vs 5 2 (.consb (.tt false) .nil))))))
def yT:Spec:={F:=fun k=>match k with | 0=>cO | 1=>cP | 2=>bG | _=>fun _=>[],pre:=fun k=>match k with | _=>fun _=>True}
theorem ah8:aq tys_VaA [iu 0,iw 1,dW 2] [] [] [] 200 Tryz.f150 [.agg kKn,.agg kKn] [.agg kKn,.one .bool] true [.int .u64,.int .u64,.int .u64,.int .u64] sT_kmeet:=⟨by kernel_rfl,by kernel_rfl,by kernel_rfl⟩
theorem ahE (a:Kn) (ha:Kn.ok a) (b:Kn) (hb:Kn.ok b) (U:Env) (g:ab U 0 [.int .u64,.int .u64,.int .u64,.int .u64]=[.z a.v,.z a.m,.z b.v,.z b.m]):sT_kmeet.asks yT (fun U e=>e.D U=fg [.z a.v,.z a.m,.z b.v,.z b.m]) U fun _ _=>False:=by
 simp only[ab,varD,thm5,Dt.z.injEq,Dt.l.injEq,b2i_eq_iff,Nat.reduceAdd,and_true] at g
 simp only[sT_kmeet,yT,kKn,cO,cP,bG,ir,dU,fg,lL,Tr.asks,ah,okDs,okD,eqs,E.I,E.B,E.L,E.R,E.D,E.vs,E.gs,E.ins,E.sv,E.tn,E.iv,E.zs,E.zr,E.sg,E.tg,E.rg,E.rgs,E.pv,Nat.reduceSub,dI,dB,dL,varD,ab,S1,Nat.reduceAdd,-eq_self,aF,g]
 intro e; (try simp only[e,aF,-eq_self]); clear e
 constructor<;>intro c0
 intro e; (try simp only[e,aF,-eq_self]); clear e
 constructor<;>intro c1
 constructor<;>intro c2
 intro e; (try simp only[e,aF,-eq_self]); clear e
 ·(unfold ol ia afP; simp_all [opI])
 intro e; (try simp only[e,aF,-eq_self]); clear e
 ·(unfold ol ia afP; simp_all [opI])
 intro e; (try simp only[e,aF,-eq_self]); clear e
 ·(unfold ol ia afP; simp_all [opI])
 intro e; (try simp only[e,aF,-eq_self]); clear e
 ·(unfold ol ia afP; simp_all [opI])
theorem zh {sp:Spec} {key:Nat} (hF:sp.F key=fg) (hP:sp.pre key=fun _=>True:=by rfl):SmOk Tryz.prog sp (lP key):=
 av (s:=lP key) hF hP (by kernel_rfl) bV (smc (nn rfl) (smc (np rfl) (smc (gE rfl) sm0))) Tryz.func150 fn0 ah8 (.inl rfl) (fun x0 gx0 x1 gx1 x2 gx2 x3 gx3 hp U g=>ahE ⟨x0,x1⟩ ⟨gx0,gx1⟩ ⟨x2,x3⟩ ⟨gx2,gx3⟩ U g)
def nl (key:Nat):Sm:=⟨64,key,[.one (.int .u64),.one (.int .i8)],[.one (.int .u64)],false⟩
def mM (x:Int) (l:Int):List Dt:=[.z (zcut x l)]
def kB:List Dt->List Dt
 | [.z x0,.z x1]=>mM x0 x1
 | _=>[]
theorem alw (x:Int) (hx:inK .u64 x=true) (l:Int) (hl:inK .i8 l=true):(∀w,Calls Tryz.prog 64 #[.int .u64 x,.int .i8 l] w fun e w'=>e=.returned (.int .u64 (zcut x l))/\Ext w w')/\io (.int .u64 (zcut x l))=true:=by
 have g:=cv hx
 have hz:=pV (ke x l g.1 g.2)
 exact⟨fun W=>(agn x l W g.1 g.2).mono (by rintro e w' ⟨rfl,rfl⟩; exact⟨rfl,Ext.refl _⟩),hz⟩
theorem amC {sp:Spec} {key:Nat} (hF:sp.F key=kB):SmOk Tryz.prog sp (nl key):=by
 refine SmOk.pure hF rfl rfl fun xs vals w h=> ?_
 obtain⟨_,_,_,rfl,⟨x0,rfl,rfl,gx0⟩,h⟩:=h
 obtain⟨_,_,_,rfl,⟨x1,rfl,rfl,gx1⟩,h⟩:=h
 obtain⟨rfl,rfl⟩:=h
 have q:=alw x0 gx0 x1 gx1
 refine⟨_,.inr ⟨cX Tryz.func64 (by kernel_rfl) (by kernel_rfl) _ w,q.1 w⟩,?_,fun U v0 nid j he=> ?_⟩
 ·have q2:=q.2
  simp[io,gi,gz] at q2
  simp[nl,kB,mM,List.flatMap_cons,List.flatMap_nil,Sh.cks,List.append_nil,List.cons_append,List.nil_append,b2i_one,eO,q2]
 ·simp only[nl,kB,mM,List.flatMap_cons,List.flatMap_nil,Sh.cks,List.append_nil,List.cons_append,List.nil_append,b2i_one,eqs,dI,dB,bJ,lE,Nat.zero_add,Nat.add_zero,Nat.reduceAdd,and_true] at he
  simp[nl,kB,mM,List.flatMap_cons,List.flatMap_nil,Sh.cks,List.append_nil,List.cons_append,List.nil_append,b2i_one,eN,bk,aE,V.den,C.den,denL,den0,bq,E.I,E.B,he]
def rt (key:Nat):Sm:=⟨226,key,[.agg kKn,.one (.int .i8)],[.agg kKn],false⟩
def qH (a:Kn) (l:Int):List Dt:=[.z ((kcut a l).v),.z ((kcut a l).m)]
def iG:List Dt->List Dt
 | [.z x0,.z x1,.z x2]=>qH ⟨x0,x1⟩ x2
 | _=>[]
def sT_kcut:Tr:=
(.call 0 [.bool] (.vs 0 2 .nil) 3
(.br (.bvar 3)
(.call 2 [.int .u64] (.cons (.var 0) (.cons (.var 2) .nil)) 4
(.call 2 [.int .u64] (.vs 1 2 .nil) 5
(.leaf (.vs 4 2 .nil))))
(.call 1 (kKn) .nil 4
(.leaf (.vs 4 2 .nil)))))
def aeq:Spec:={F:=fun k=>match k with | 0=>cO | 1=>cP | 2=>kB | _=>fun _=>[],pre:=fun k=>match k with | _=>fun _=>True}
theorem al3:aq tys_VaA [iu 0,iw 1,nl 2] [] [] [] 200 Tryz.f226 [.agg kKn,.one (.int .i8)] [.agg kKn] false [.int .u64,.int .u64,.int .i8] sT_kcut:=⟨by kernel_rfl,by kernel_rfl,by kernel_rfl⟩
theorem alm (a:Kn) (ha:Kn.ok a) (l:Int) (hl:inK .i8 l=true) (U:Env) (g:ab U 0 [.int .u64,.int .u64,.int .i8]=[.z a.v,.z a.m,.z l]):sT_kcut.asks aeq (fun U e=>e.D U=iG [.z a.v,.z a.m,.z l]) U fun _ _=>False:=by
 simp only[ab,varD,thm5,Dt.z.injEq,Dt.l.injEq,b2i_eq_iff,Nat.reduceAdd,and_true] at g
 simp only[sT_kcut,aeq,kKn,cO,cP,kB,ir,mM,iG,qH,Tr.asks,ah,okDs,okD,eqs,E.I,E.B,E.L,E.R,E.D,E.vs,E.gs,E.ins,E.sv,E.tn,E.iv,E.zs,E.zr,E.sg,E.tg,E.rg,E.rgs,E.pv,Nat.reduceSub,dI,dB,dL,varD,ab,S1,Nat.reduceAdd,-eq_self,aF,g]
 intro e; (try simp only[e,aF,-eq_self]); clear e
 constructor<;>intro c0
 intro e; (try simp only[e,aF,-eq_self]); clear e
 intro e; (try simp only[e,aF,-eq_self]); clear e
 ·(unfold kcut; simp_all)
 intro e; (try simp only[e,aF,-eq_self]); clear e
 ·(unfold kcut; simp_all)
theorem ae3 {sp:Spec} {key:Nat} (hF:sp.F key=iG) (hP:sp.pre key=fun _=>True:=by rfl):SmOk Tryz.prog sp (rt key):=
 av (s:=rt key) hF hP (by kernel_rfl) bV (smc (nn rfl) (smc (np rfl) (smc (amC rfl) sm0))) Tryz.func226 fn0 al3 (.inl rfl) (fun x0 gx0 x1 gx1 x2 gx2 hp U g=>alm ⟨x0,x1⟩ ⟨gx0,gx1⟩ x2 gx2 U g)
def eY (key:Nat):Sm:=⟨108,key,[.agg kSc],[.one .bool],false⟩
def eX (a:Sc):List Dt:=[.z (b2i (vmay a))]
def bW:List Dt->List Dt
 | [.z x0,.z x1,.z x2,.z x3,.z x4,.z x5]=>eX ⟨x0,x1,x2,x3,x4,x5⟩
 | _=>[]
def sT_vmay:Tr:=
(.call 0 [.bool] (.vs 0 4 .nil) 6
(.br (.bvar 6)
(.call 1 [.bool] (.vs 4 2 .nil) 7
(.leaf (.consb (.bvar 7) .nil)))
(.leaf (.consb (.tt false) .nil))))
def ad0:Spec:={F:=fun k=>match k with | 0=>cE | 1=>cO | _=>fun _=>[],pre:=fun k=>match k with | _=>fun _=>True}
theorem alD:aq tys_VaA [gZ 0,iu 1] [] [] [] 200 Tryz.f108 [.agg kSc] [.one .bool] false [.int .u64,.int .u64,.int .i64,.int .i64,.int .u64,.int .u64] sT_vmay:=⟨by kernel_rfl,by kernel_rfl,by kernel_rfl⟩
theorem akV (a:Sc) (ha:Sc.ok a) (U:Env) (g:ab U 0 [.int .u64,.int .u64,.int .i64,.int .i64,.int .u64,.int .u64]=[.z a.ul,.z a.uh,.z a.sl,.z a.sh,.z a.v,.z a.m]):sT_vmay.asks ad0 (fun U e=>e.D U=bW [.z a.ul,.z a.uh,.z a.sl,.z a.sh,.z a.v,.z a.m]) U fun _ _=>False:=by
 simp only[ab,varD,thm5,Dt.z.injEq,Dt.l.injEq,b2i_eq_iff,Nat.reduceAdd,and_true] at g
 simp only[sT_vmay,ad0,cE,cO,gY,ir,bW,eX,Tr.asks,ah,okDs,okD,eqs,E.I,E.B,E.L,E.R,E.D,E.vs,E.gs,E.ins,E.sv,E.tn,E.iv,E.zs,E.zr,E.sg,E.tg,E.rg,E.rgs,E.pv,Nat.reduceSub,dI,dB,dL,varD,ab,S1,Nat.reduceAdd,-eq_self,aF,g]
 intro e; (try simp only[e,aF,-eq_self]); clear e
 constructor<;>intro c0
 intro e; (try simp only[e,aF,-eq_self]); clear e
 ·(unfold vmay; simp_all)
 ·(unfold vmay; simp_all)
theorem ix {sp:Spec} {key:Nat} (hF:sp.F key=bW) (hP:sp.pre key=fun _=>True:=by rfl):SmOk Tryz.prog sp (eY key):=
 av (s:=eY key) hF hP (by kernel_rfl) bV (smc (lj rfl) (smc (nn rfl) sm0)) Tryz.func108 fn0 alD (.inl rfl) (fun x0 gx0 x1 gx1 x2 gx2 x3 gx3 x4 gx4 x5 gx5 hp U g=>akV ⟨x0,x1,x2,x3,x4,x5⟩ ⟨gx0,gx1,gx2,gx3,gx4,gx5⟩ U g)
def fM (key:Nat):Sm:=⟨148,key,[],[.agg kSc],false⟩
def ct:List Dt->List Dt
 | []=>[.z vall.ul,.z vall.uh,.z vall.sl,.z vall.sh,.z vall.v,.z vall.m]
 | _=>[]
def sT_vall:Tr:=
(.call 0 (kRg) .nil 0
(.call 1 (kKn) .nil 4
(.leaf (.vs 0 6 .nil))))
def ad8:Spec:={F:=fun k=>match k with | 0=>bv | 1=>cP | _=>fun _=>[],pre:=fun k=>match k with | _=>fun _=>True}
theorem alL:aq tys_VaA [dD 0,iw 1] [] [] [] 200 Tryz.f148 [] [.agg kSc] false [] sT_vall:=⟨by kernel_rfl,by kernel_rfl,by kernel_rfl⟩
theorem ak3 (U:Env) (g:ab U 0 []=[]):sT_vall.asks ad8 (fun U e=>e.D U=ct []) U fun _ _=>False:=by
 simp only[sT_vall,ad8,kKn,kRg,bv,cP,ct,Tr.asks,ah,okDs,okD,eqs,E.I,E.B,E.L,E.R,E.D,E.vs,E.gs,E.ins,E.sv,E.tn,E.iv,E.zs,E.zr,E.sg,E.tg,E.rg,E.rgs,E.pv,Nat.reduceSub,dI,dB,dL,varD,ab,S1,Nat.reduceAdd,-eq_self,aF]
 intro e; (try simp only[e,aF,-eq_self]); clear e
 intro e; (try simp only[e,aF,-eq_self]); clear e
 ·rfl
theorem ku {sp:Spec} {key:Nat} (hF:sp.F key=ct) (hP:sp.pre key=fun _=>True:=by rfl):SmOk Tryz.prog sp (fM key):=
 av (s:=fM key) hF hP (by kernel_rfl) bV (smc (eD rfl) (smc (np rfl) sm0)) Tryz.func148 fn0 alL (.inl rfl) (fun hp U g=>ak3 U g)
def kt (key:Nat):Sm:=⟨76,key,[.one (.int .u64)],[.agg kSc],false⟩
def mw (v:Int):List Dt:=[.z ((vone v).ul),.z ((vone v).uh),.z ((vone v).sl),.z ((vone v).sh),.z ((vone v).v),.z ((vone v).m)]
def dg:List Dt->List Dt
 | [.z x0]=>mw x0
 | _=>[]
def sT_vone:Tr:=
(.call 0 (kRg) (.cons (.var 0) .nil) 1
(.call 1 (kKn) (.cons (.var 0) .nil) 5
(.leaf (.vs 1 6 .nil))))
def adY:Spec:={F:=fun k=>match k with | 0=>ux | 1=>ff | _=>fun _=>[],pre:=fun k=>match k with | _=>fun _=>True}
theorem alB:aq tys_VaA [aeD 0,nf 1] [] [] [] 200 Tryz.f76 [.one (.int .u64)] [.agg kSc] false [.int .u64] sT_vone:=⟨by kernel_rfl,by kernel_rfl,by kernel_rfl⟩
theorem akT (v:Int) (hv:inK .u64 v=true) (U:Env) (g:ab U 0 [.int .u64]=[.z v]):sT_vone.asks adY (fun U e=>e.D U=dg [.z v]) U fun _ _=>False:=by
 simp only[ab,varD,thm5,Dt.z.injEq,Dt.l.injEq,b2i_eq_iff,Nat.reduceAdd,and_true] at g
 simp only[sT_vone,adY,kKn,kRg,ux,ff,adC,mG,dg,mw,Tr.asks,ah,okDs,okD,eqs,E.I,E.B,E.L,E.R,E.D,E.vs,E.gs,E.ins,E.sv,E.tn,E.iv,E.zs,E.zr,E.sg,E.tg,E.rg,E.rgs,E.pv,Nat.reduceSub,dI,dB,dL,varD,ab,S1,Nat.reduceAdd,-eq_self,aF,g]
 intro e; (try simp only[e,aF,-eq_self]); clear e
 intro e; (try simp only[e,aF,-eq_self]); clear e
 ·rfl
theorem rD {sp:Spec} {key:Nat} (hF:sp.F key=dg) (hP:sp.pre key=fun _=>True:=by rfl):SmOk Tryz.prog sp (kt key):=
 av (s:=kt key) hF hP (by kernel_rfl) bV (smc (aoN rfl) (smc (wY rfl) sm0)) Tryz.func76 fn0 alB (.inl rfl) (fun x0 gx0 hp U g=>akT x0 gx0 U g)
def kr (key:Nat):Sm:=⟨235,key,[.agg kSc],[.one (.int .u64),.one .bool],true⟩
def kp (a:Sc):List Dt:=[.z (kh a),.z (b2i (agS a))]
def eG:List Dt->List Dt
 | [.z x0,.z x1,.z x2,.z x3,.z x4,.z x5]=>kp ⟨x0,x1,x2,x3,x4,x5⟩
 | _=>[]
def sT_vsingle:Tr:=
(.call 0 [.bool] (.vs 0 6 .nil) 6
(.br (.bvar 6)
(.call 1 [.int .u64,.bool] (.vs 0 4 .nil) 7
(.leaf (.cons (.var 7) (.consb (.bvar 8) .nil))))
(.leaf (.cons (.lit 0) (.consb (.tt false) .nil)))))
def o8:Spec:={F:=fun k=>match k with | 0=>bW | 1=>cD | _=>fun _=>[],pre:=fun k=>match k with | _=>fun _=>True}
theorem aaO:aq tys_VaA [eY 0,fN 1] [] [] [] 200 Tryz.f235 [.agg kSc] [.one (.int .u64),.one .bool] true [.int .u64,.int .u64,.int .i64,.int .i64,.int .u64,.int .u64] sT_vsingle:=⟨by kernel_rfl,by kernel_rfl,by kernel_rfl⟩
theorem aaL (a:Sc) (ha:Sc.ok a) (U:Env) (g:ab U 0 [.int .u64,.int .u64,.int .i64,.int .i64,.int .u64,.int .u64]=[.z a.ul,.z a.uh,.z a.sl,.z a.sh,.z a.v,.z a.m]):sT_vsingle.asks o8 (fun U e=>e.D U=eG [.z a.ul,.z a.uh,.z a.sl,.z a.sh,.z a.v,.z a.m]) U fun _ _=>False:=by
 simp only[ab,varD,thm5,Dt.z.injEq,Dt.l.injEq,b2i_eq_iff,Nat.reduceAdd,and_true] at g
 simp only[sT_vsingle,o8,bW,cD,eX,fL,eG,kp,Tr.asks,ah,okDs,okD,eqs,E.I,E.B,E.L,E.R,E.D,E.vs,E.gs,E.ins,E.sv,E.tn,E.iv,E.zs,E.zr,E.sg,E.tg,E.rg,E.rgs,E.pv,Nat.reduceSub,dI,dB,dL,varD,ab,S1,Nat.reduceAdd,-eq_self,aF,g]
 intro e; (try simp only[e,aF,-eq_self]); clear e
 constructor<;>intro c0
 intro e; (try simp only[e,aF,-eq_self]); clear e
 ·(unfold kh agS; simp_all)
 ·(unfold kh agS; simp_all)
theorem aaR {sp:Spec} {key:Nat} (hF:sp.F key=eG) (hP:sp.pre key=fun _=>True:=by rfl):SmOk Tryz.prog sp (kr key):=
 av (s:=kr key) hF hP (by kernel_rfl) bV (smc (ix rfl) (smc (nm rfl) sm0)) Tryz.func235 fn0 aaO (.inl rfl) (fun x0 gx0 x1 gx1 x2 gx2 x3 gx3 x4 gx4 x5 gx5 hp U g=>aaL ⟨x0,x1,x2,x3,x4,x5⟩ ⟨gx0,gx1,gx2,gx3,gx4,gx5⟩ U g)
end Go.Proofs.YtfkhblmeioiciaaGreatDoor
