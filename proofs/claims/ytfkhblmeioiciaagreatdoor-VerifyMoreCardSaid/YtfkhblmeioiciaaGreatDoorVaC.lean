import Derived.Test.YtfkhblmeioiciaaGreatDoorVaB
import Derived.Test.YtfkhblmeioiciaaGreatDoorKaD
import Derived.Test.YtfkhblmeioiciaaGreatDoorVk
import Derived.Test.YtfkhblmeioiciaaGreatDoorProg
import Derived.Laws.Externs
set_option maxRecDepth 100000
set_option maxHeartbeats 8000000
set_option linter.defProp false
set_option linter.unusedVariables false
set_option linter.unusedSimpArgs false
namespace Go.Proofs.YtfkhblmeioiciaaGreatDoor
open Go.RowKit Go.ChangeShapes Go.WideShapes
def tys_VaC:List (Nat×TI):=[(2,tiq2),
 (27,ahA),
 (37,ig),
 (42,fP),
 (44,ic),
 (46,kD),
 (48,ahz)]
theorem acN:(tys_VaC.all fun p=>ckTI Tryz.prog p.1 p.2)=true:=by kernel_rfl
theorem tE:(tys_VaC.all fun p=>!p.2.eqok)=true:=by kernel_rfl
theorem act:(tys_VaC.all fun p=>!p.2.keyok)=true:=by kernel_rfl
theorem th:∀t i,(t,i)∈tys_VaC->TIok Tryz.prog t i:=by
 intro t i h
 refine bE (cC (f:=ckTI Tryz.prog) acN h) (fun he=> ?_) (fun he=> ?_) (fun he=> ?_)
 ·have h1:=thm7.1 tE (t,i) h
  simp[he] at h1
 ·have h1:=thm7.1 tE (t,i) h
  simp[he] at h1
 ·have h1:=thm7.1 act (t,i) h
  simp[he] at h1
def jv (key:Nat):Sm:=⟨25,key,[.one (.int .i8),.one (.int .i8),.one (.lit .u64 0),.one (.lit .u64 0)],[.one (.int .u64),.one (.int .i64)],true⟩
def jt (op:Int) (l:Int):List Dt:=[.z (if okop op l=true then zdo op l 0 0 else 0),.z (if okop op l=true then 0 else 2)]
def gV:List Dt->List Dt
 | [.z x0,.z x1]=>jt x0 x1
 | _=>[]
theorem aip (op:Int) (hop:inK .i8 op=true) (l:Int) (hl:inK .i8 l=true):(∀w,Calls Tryz.prog 25 #[.int .i8 op,.int .i8 l,.int .u64 0,.int .u64 0] w fun e w'=>e=.returned (.tuple #[.int .u64 (if okop op l=true then zdo op l 0 0 else 0),.int .i64 (if okop op l=true then 0 else 2)])/\Ext w w')/\iI (.tuple #[.int .u64 (if okop op l=true then zdo op l 0 0 else 0),.int .i64 (if okop op l=true then 0 else 2)])=true:=by
 exact adP op hop l hl 0 (by decide) 0 (by decide)
theorem aje {sp:Spec} {key:Nat} (hF:sp.F key=gV):SmOk Tryz.prog sp (jv key):=by
 refine SmOk.pure hF rfl rfl fun xs vals w h=> ?_
 obtain⟨_,_,_,rfl,⟨x0,rfl,rfl,gx0⟩,h⟩:=h
 obtain⟨_,_,_,rfl,⟨x1,rfl,rfl,gx1⟩,h⟩:=h
 obtain⟨_,_,_,rfl,⟨rfl,rfl⟩,h⟩:=h
 obtain⟨_,_,_,rfl,⟨rfl,rfl⟩,h⟩:=h
 obtain⟨rfl,rfl⟩:=h
 have q:=aip x0 gx0 x1 gx1
 refine⟨_,.inr ⟨dd Tryz.func25 (by kernel_rfl) (by kernel_rfl) _ w,q.1 w⟩,?_,fun U v0 nid j he=> ?_⟩
 ·have q2:=q.2
  simp[iI,gD,gN] at q2
  simp[jv,gV,jt,List.flatMap_cons,List.flatMap_nil,Sh.cks,List.append_nil,List.cons_append,List.nil_append,b2i_one,fc,q2]
 ·simp only[jv,gV,jt,List.flatMap_cons,List.flatMap_nil,Sh.cks,List.append_nil,List.cons_append,List.nil_append,b2i_one,eqs,dI,dB,bK,lS,bn,Nat.add_zero,Nat.reduceAdd,and_true] at he
  simp[jv,gV,jt,List.flatMap_cons,List.flatMap_nil,Sh.cks,List.append_nil,List.cons_append,List.nil_append,b2i_one,eZ,bk,aE,V.den,C.den,denL,den0,bD,E.I,E.B,he]
def ae0 (key:Nat):Sm:=⟨143,key,[.one (.int .i8),.one (.int .i8),.agg kSc,.agg kSc],[.agg kSc],false⟩
def adU (op:Int) (l:Int) (a:Sc) (b:Sc):List Dt:=[.z ((vdo op l a b).ul),.z ((vdo op l a b).uh),.z ((vdo op l a b).sl),.z ((vdo op l a b).sh),.z ((vdo op l a b).v),.z ((vdo op l a b).m)]
def uQ:List Dt->List Dt
 | [.z x0,.z x1,.z x2,.z x3,.z x4,.z x5,.z x6,.z x7,.z x8,.z x9,.z x10,.z x11,.z x12,.z x13]=>adU x0 x1 ⟨x2,x3,x4,x5,x6,x7⟩ ⟨x8,x9,x10,x11,x12,x13⟩
 | _=>[]
def sT_vdo:Tr:=
(.call 0 [.int .u64,.int .i64] (.vs 0 2 .nil) 14
(.br (.eq (.var 15) (.lit 0))
(.call 1 [.bool] (.vs 2 6 .nil) 16
(.br (.bw 16)
(.call 1 [.bool] (.vs 8 6 .nil) 17
(.br (.bw 17)
(.br (.eq (.var 1) (.lit 64))
(.call 3 (kRg) (.cons (.var 0) (.vs 2 4 (.vs 8 4 .nil))) 18
(.call 4 (kKn) (.vs 0 2 (.vs 6 2 (.vs 12 2 .nil))) 22
(.call 5 (kSc) (.vs 18 6 .nil) 24
(.leaf (.vs 24 6 .nil)))))
(.call 6 (kSc) (.vs 2 6 .nil) 18
(.call 6 (kSc) (.vs 8 6 .nil) 24
(.call 7 (kRg) (.cons (.var 0) (.vs 18 12 .nil)) 30
(.call 4 (kKn) (.vs 0 2 (.vs 22 2 (.vs 28 2 .nil))) 34
(.call 8 (kSc++[.bool]) (.vs 30 6 .nil) 36
(.br (.bw 42)
(.leaf (.vs 36 6 .nil))
(.call 9 (kSc) .nil 43
(.leaf (.vs 43 6 .nil))))))))))
(.call 2 (kSc) .nil 18
(.leaf (.vs 18 6 .nil)))))
(.call 2 (kSc) .nil 17
(.leaf (.vs 17 6 .nil)))))
(.call 2 (kSc) .nil 16
(.leaf (.vs 16 6 .nil)))))
def ake:Spec:={F:=fun k=>match k with | 0=>gV | 1=>bU | 2=>ct | 3=>xA | 4=>uW | 5=>bH | 6=>nH | 7=>jC | 8=>fq | 9=>nK | _=>fun _=>[],pre:=fun _ _=>True}
theorem apK:ap tys_VaC [jv 0,fl 1,fZ 2,aiT 3,ae5 4,eb 5,wW 6,rp 7,nc 8,xb 9] [] [] [] 200 Tryz.f143 [.one (.int .i8),.one (.int .i8),.agg kSc,.agg kSc] [.agg kSc] false [.int .i8,.int .i8,.int .u64,.int .u64,.int .i64,.int .i64,.int .u64,.int .u64,.int .u64,.int .u64,.int .i64,.int .i64,.int .u64,.int .u64] sT_vdo:=⟨by kernel_rfl,by kernel_rfl,by kernel_rfl⟩
def aI:=And.intro Kn.eta (And.intro Pi.eta (And.intro Pu.eta (And.intro Rg.eta (And.intro Sc.eta (And.intro Sc.eta_r (And.intro Sc.eta_k (Sc.eta_2)))))))
theorem apn (op:Int) (hop:inK .i8 op=true) (l:Int) (hl:inK .i8 l=true) (a:Sc) (ha:Sc.ok a) (b:Sc) (hb:Sc.ok b) (U:Env) (g:varsD U 0 [.int .i8,.int .i8,.int .u64,.int .u64,.int .i64,.int .i64,.int .u64,.int .u64,.int .u64,.int .u64,.int .i64,.int .i64,.int .u64,.int .u64]=[.z op,.z l,.z a.ul,.z a.uh,.z a.sl,.z a.sh,.z a.v,.z a.m,.z b.ul,.z b.uh,.z b.sl,.z b.sh,.z b.v,.z b.m]):sT_vdo.asks ake (fun U e=>e.D U=uQ [.z op,.z l,.z a.ul,.z a.uh,.z a.sl,.z a.sh,.z a.v,.z a.m,.z b.ul,.z b.uh,.z b.sl,.z b.sh,.z b.v,.z b.m]) U fun _ _=>False:=by
 simp only[varsD,varD,thm5,gS0,Nat.reduceAdd,and_true] at g
 simp only[sT_vdo,ake,kKn,kRg,kSc,gV,bU,ct,xA,uW,bH,nH,jC,fq,nK,jt,fk,air,ad2,dZ,wD,qI,mK,uQ,adU,simQ,af,S1,Nat.reduceSub,Nat.reduceAdd,-eq_self,aI,g]
 intro e;(try simp only[e,aI,-eq_self]);clear e
 constructor<;>intro c0
 intro e;(try simp only[e,aI,-eq_self]);clear e
 constructor<;>intro c1
 intro e;(try simp only[e,aI,-eq_self]);clear e
 constructor<;>intro c2
 constructor<;>intro c3
 intro e;(try simp only[e,aI,-eq_self]);clear e
 intro e;(try simp only[e,aI,-eq_self]);clear e
 intro e;(try simp only[e,aI,-eq_self]);clear e
 ·(obtain rfl:=eqz c3;have hk:=aol c0;rw[show vdo op 64 a b=vnar (sc (bdo op a.r b.r) (kdo op 64 a.k b.k)) from by unfold vdo;simp[hk,c1,c2]];try rfl)
 intro e;(try simp only[e,aI,-eq_self]);clear e
 intro e;(try simp only[e,aI,-eq_self]);clear e
 intro e;(try simp only[e,aI,-eq_self]);clear e
 intro e;(try simp only[e,aI,-eq_self]);clear e
 intro e;(try simp only[e,aI,-eq_self]);clear e
 constructor<;>intro c4
 ·(have n:=nez c3;have hk:=aol c0;have c5:vnok (vhf op l a b)=true:=c4;rw[show vdo op l a b=vnar (vhf op l a b) from by unfold vdo;simp[hk,c1,c2,n,c5]];try rfl)
 intro e;(try simp only[e,aI,-eq_self]);clear e
 ·(have n:=nez c3;have hk:=aol c0;have c5:vnok (vhf op l a b)=false:=c4;rw[show vdo op l a b=vbel 4294967295 from by unfold vdo;simp[hk,c1,c2,n,c5]];try rfl)
 intro e;(try simp only[e,aI,-eq_self]);clear e
 ·(rw[show vdo op l a b=vall from by unfold vdo;simp[c2]];try rfl)
 intro e;(try simp only[e,aI,-eq_self]);clear e
 ·(rw[show vdo op l a b=vall from by unfold vdo;simp[c1]];try rfl)
 intro e;(try simp only[e,aI,-eq_self]);clear e
 ·(have hk:=aqA c0;rw[show vdo op l a b=vall from by unfold vdo;simp[hk]];try rfl)
theorem ap7 {sp:Spec} {key:Nat} (hF:sp.F key=uQ) (hP:sp.pre key=fun _=>True:=by rfl):SmOk Tryz.prog sp (ae0 key):=
 au (s:=ae0 key) hF hP (by kernel_rfl) th (smc (aje rfl) (smc (iO rfl) (smc (kM rfl) (smc (aqi rfl) (smc (aqe rfl) (smc (gS rfl) (smc (anD rfl) (smc (aiY rfl) (smc (xw rfl) (smc (anH rfl) sm0)))))))))) Tryz.func143 fn0 apK (.inl rfl) (fun x0 gx0 x1 gx1 x2 gx2 x3 gx3 x4 gx4 x5 gx5 x6 gx6 x7 gx7 x8 gx8 x9 gx9 x10 gx10 x11 gx11 x12 gx12 x13 gx13 hp U g=>apn x0 gx0 x1 gx1 ⟨x2,x3,x4,x5,x6,x7⟩ ⟨gx2,gx3,gx4,gx5,gx6,gx7⟩ ⟨x8,x9,x10,x11,x12,x13⟩ ⟨gx8,gx9,gx10,gx11,gx12,gx13⟩ U g)
def wX (key:Nat):Sm:=⟨88,key,[.one (.int .i8),.agg kSc,.agg kSc],[.agg kSc,.one .bool],true⟩
def adT (cc:Int) (a:Sc) (b:Sc):List Dt:=[.z ((vgiv cc a b).ul),.z ((vgiv cc a b).uh),.z ((vgiv cc a b).sl),.z ((vgiv cc a b).sh),.z ((vgiv cc a b).v),.z ((vgiv cc a b).m),.z (b2i (vgok cc a b))]
def kO:List Dt->List Dt
 | [.z x0,.z x1,.z x2,.z x3,.z x4,.z x5,.z x6,.z x7,.z x8,.z x9,.z x10,.z x11,.z x12]=>adT x0 ⟨x1,x2,x3,x4,x5,x6⟩ ⟨x7,x8,x9,x10,x11,x12⟩
 | _=>[]
def sT_vgiv:Tr:=
(.call 0 [.bool] (.vs 1 6 .nil) 13
(.br (.bw 13)
(.call 0 [.bool] (.vs 7 6 .nil) 14
(.br (.bw 14)
(.call 2 (kRg++[.bool]) (.vs 0 5 (.vs 7 4 .nil)) 15
(.br (.bw 19)
(.br (.eq (.var 0) (.lit 0))
(.call 3 (kKn++[.bool]) (.vs 5 2 (.vs 11 2 .nil)) 20
(.br (.bw 22)
(.call 4 (kSc++[.bool]) (.vs 15 4 (.vs 20 2 .nil)) 23
(.leaf (.vs 23 6 (.cb (.bw 29) .nil))))
(.call 1 (kSc) .nil 23
(.leaf (.vs 23 6 (.cb (.tt false) .nil))))))
(.call 4 (kSc++[.bool]) (.vs 15 4 (.vs 5 2 .nil)) 20
(.leaf (.vs 20 6 (.cb (.bw 26) .nil)))))
(.call 1 (kSc) .nil 20
(.leaf (.vs 20 6 (.cb (.tt false) .nil))))))
(.call 1 (kSc) .nil 15
(.leaf (.vs 15 6 (.cb (.tt false) .nil))))))
(.call 1 (kSc) .nil 14
(.leaf (.vs 14 6 (.cb (.tt false) .nil))))))
def aer:Spec:={F:=fun k=>match k with | 0=>bU | 1=>ct | 2=>jR | 3=>fx | 4=>fq | _=>fun _=>[],pre:=fun _ _=>True}
theorem amZ:ap tys_VaC [fl 0,fZ 1,rS 2,mg 3,nc 4] [] [] [] 200 Tryz.f88 [.one (.int .i8),.agg kSc,.agg kSc] [.agg kSc,.one .bool] true [.int .i8,.int .u64,.int .u64,.int .i64,.int .i64,.int .u64,.int .u64,.int .u64,.int .u64,.int .i64,.int .i64,.int .u64,.int .u64] sT_vgiv:=⟨by kernel_rfl,by kernel_rfl,by kernel_rfl⟩
theorem amj (cc:Int) (hcc:inK .i8 cc=true) (a:Sc) (ha:Sc.ok a) (b:Sc) (hb:Sc.ok b) (U:Env) (g:varsD U 0 [.int .i8,.int .u64,.int .u64,.int .i64,.int .i64,.int .u64,.int .u64,.int .u64,.int .u64,.int .i64,.int .i64,.int .u64,.int .u64]=[.z cc,.z a.ul,.z a.uh,.z a.sl,.z a.sh,.z a.v,.z a.m,.z b.ul,.z b.uh,.z b.sl,.z b.sh,.z b.v,.z b.m]):sT_vgiv.asks aer (fun U e=>e.D U=kO [.z cc,.z a.ul,.z a.uh,.z a.sl,.z a.sh,.z a.v,.z a.m,.z b.ul,.z b.uh,.z b.sl,.z b.sh,.z b.v,.z b.m]) U fun _ _=>False:=by
 simp only[varsD,varD,thm5,gS0,Nat.reduceAdd,and_true] at g
 simp only[sT_vgiv,aer,kKn,kRg,kSc,bU,ct,jR,fx,fq,fk,rh,lZ,mK,kO,adT,simQ,af,S1,Nat.reduceSub,Nat.reduceAdd,-eq_self,aI,g]
 intro e;(try simp only[e,aI,-eq_self]);clear e
 constructor<;>intro c0
 intro e;(try simp only[e,aI,-eq_self]);clear e
 constructor<;>intro c1
 intro e;(try simp only[e,aI,-eq_self]);clear e
 constructor<;>intro c2
 constructor<;>intro c3
 intro e;(try simp only[e,aI,-eq_self]);clear e
 constructor<;>intro c4
 intro e;(try simp only[e,aI,-eq_self]);clear e
 ·(have q:=vg_0 c0 c1 c2 c3 c4;rw[q.1,q.2];try rfl)
 intro e;(try simp only[e,aI,-eq_self]);clear e
 ·(have q:=vg_f (cc:=cc) (a:=a) (b:=b) (.inr (.inr (.inr ⟨c3,c4⟩)));rw[q.1,q.2];try rfl)
 intro e;(try simp only[e,aI,-eq_self]);clear e
 ·(have q:=vg_n c0 c1 c2 c3;rw[q.1,q.2];try rfl)
 intro e;(try simp only[e,aI,-eq_self]);clear e
 ·(have q:=vg_f (cc:=cc) (a:=a) (b:=b) (.inr (.inr (.inl c2)));rw[q.1,q.2];try rfl)
 intro e;(try simp only[e,aI,-eq_self]);clear e
 ·(have q:=vg_f (cc:=cc) (a:=a) (b:=b) (.inr (.inl c1));rw[q.1,q.2];try rfl)
 intro e;(try simp only[e,aI,-eq_self]);clear e
 ·(have q:=vg_f (cc:=cc) (a:=a) (b:=b) (.inl c0);rw[q.1,q.2];try rfl)
theorem anE {sp:Spec} {key:Nat} (hF:sp.F key=kO) (hP:sp.pre key=fun _=>True:=by rfl):SmOk Tryz.prog sp (wX key):=
 au (s:=wX key) hF hP (by kernel_rfl) th (smc (iO rfl) (smc (kM rfl) (smc (ajd rfl) (smc (zF rfl) (smc (xw rfl) sm0))))) Tryz.func88 fn0 amZ (.inl rfl) (fun x0 gx0 x1 gx1 x2 gx2 x3 gx3 x4 gx4 x5 gx5 x6 gx6 x7 gx7 x8 gx8 x9 gx9 x10 gx10 x11 gx11 x12 gx12 hp U g=>amj x0 gx0 ⟨x1,x2,x3,x4,x5,x6⟩ ⟨gx1,gx2,gx3,gx4,gx5,gx6⟩ ⟨x7,x8,x9,x10,x11,x12⟩ ⟨gx7,gx8,gx9,gx10,gx11,gx12⟩ U g)
end Go.Proofs.YtfkhblmeioiciaaGreatDoor
