import Derived.Test.YtfkhblmeioiciaaGreatDoorVaA
import Derived.Test.YtfkhblmeioiciaaGreatDoorProg
import Derived.Laws.Externs
set_option maxRecDepth 100000
set_option maxHeartbeats 8000000
set_option linter.defProp false
set_option linter.unusedVariables false
set_option linter.unusedSimpArgs false
namespace Go.Proofs.YtfkhblmeioiciaaGreatDoor
open Go.RowKit Go.ChangeShapes Go.WideShapes
def tys_VaB:List (Nat×TI):=[(2,tiq2),
 (3,tiq3),
 (37,ig),
 (42,fP),
 (44,ic),
 (46,kD),
 (48,ahz)]
theorem acO:(tys_VaB.all fun p=>ckTI Tryz.prog p.1 p.2)=true:=by kernel_rfl
theorem tF:(tys_VaB.all fun p=>!p.2.eqok)=true:=by kernel_rfl
theorem acu:(tys_VaB.all fun p=>!p.2.keyok)=true:=by kernel_rfl
theorem bt:∀t i,(t,i)∈tys_VaB->TIok Tryz.prog t i:=by
 intro t i h
 refine bE (cC (f:=ckTI Tryz.prog) acO h) (fun he=> ?_) (fun he=> ?_) (fun he=> ?_)
 ·have h1:=thm7.1 tF (t,i) h
  simp[he] at h1
 ·have h1:=thm7.1 tF (t,i) h
  simp[he] at h1
 ·have h1:=thm7.1 acu (t,i) h
  simp[he] at h1
def wY (key:Nat):Sm:=⟨203,key,[.agg kRg],[.agg kKn],false⟩
def wE (a:Rg):List Dt:=[.z ((kcom a).v),.z ((kcom a).m)]
def nI:List Dt->List Dt
 | [.z x0,.z x1,.z x2,.z x3]=>wE ⟨x0,x1,x2,x3⟩
 | _=>[]
def alA:E:=(.bin .sub .u64 (.bin .shl .u64 (.lit 1) (.bin .sub .i64 (.lit 64) (.var 4))) (.lit 1))
def sT_vcom:Tr:=
(.call 0 [.int .i64] (.cons (.bin .xor .u64 (.var 0) (.var 1)) .nil) 4
(.br (.lt (.lit 0) (.var 4))
(.br (.lt (.bin .sub .i64 (.lit 64) (.var 4)) (.lit 0))
.panic
(.leaf (.cons (.bin .andNot .u64 (.var 0) alA) (.cons alA .nil))))
(.leaf (.cons (.bin .andNot .u64 (.var 0) (.lit 18446744073709551615)) (.cons (.lit 18446744073709551615) .nil)))))
def aes:Spec:={F:=fun k=>match k with | 0=>uU | _=>fun _=>[],pre:=fun _ _=>True}
theorem am0:ap tys_VaB [aa8 0] [] [] [] 200 Tryz.f203 [.agg kRg] [.agg kKn] false [.int .u64,.int .u64,.int .i64,.int .i64] sT_vcom:=⟨by kernel_rfl,by kernel_rfl,by kernel_rfl⟩
def aq:=And.intro Kn.eta (And.intro Pi.eta (And.intro Pu.eta (And.intro Rg.eta (And.intro Sc.eta (And.intro Sc.eta_r (And.intro Sc.eta_k (Sc.eta_2)))))))
theorem amk (a:Rg) (ha:Rg.ok a) (U:Env) (g:varsD U 0 [.int .u64,.int .u64,.int .i64,.int .i64]=[.z a.ul,.z a.uh,.z a.sl,.z a.sh]):sT_vcom.asks aes (fun U e=>e.D U=nI [.z a.ul,.z a.uh,.z a.sl,.z a.sh]) U fun _ _=>False:=by
 simp only[varsD,varD,thm5,gS0,Nat.reduceAdd,and_true] at g
 simp only[sT_vcom,alA,aes,uU,aa6,nI,wE,simQ,af,S1,Nat.reduceSub,Nat.reduceAdd,-eq_self,aq,g]
 intro e;(try simp only[e,aq,-eq_self]);clear e
 constructor<;>intro c0
 constructor<;>intro c1
 ·(have hx:=abZ a.ul a.uh;have hb:aC (bits .xor .u64 a.ul a.uh).toNat<=64:=eJ (by omega);have h1:IntKind.i64.wrap (64-(64-(aC (bits .xor .u64 a.ul a.uh).toNat:Int)))<0:=thm3 c1;rw[aR] at h1;omega)
 ·exact aO (aqH (Rg.wf_of ha))
 ·exact aO (aqI (Rg.wf_of ha) c0)
theorem kf:Tryz.prog.follows .mixedOrders=true:=by kernel_rfl
theorem anF {sp:Spec} {key:Nat} (hF:sp.F key=nI) (hP:sp.pre key=fun _=>True:=by rfl):SmOk Tryz.prog sp (wY key):=
 au (s:=wY key) hF hP kf bt (smc (aqb rfl) sm0) Tryz.func203 fn0 am0 (.inl rfl) (fun x0 gx0 x1 gx1 x2 gx2 x3 gx3 hp U g=>amk ⟨x0,x1,x2,x3⟩ ⟨gx0,gx1,gx2,gx3⟩ U g)
def nc (key:Nat):Sm:=⟨151,key,[.agg kSc],[.agg kSc,.one .bool],true⟩
def mK (a:Sc):List Dt:=[.z ((vnar a).ul),.z ((vnar a).uh),.z ((vnar a).sl),.z ((vnar a).sh),.z ((vnar a).v),.z ((vnar a).m),.z (b2i (vnok a))]
def fq:List Dt->List Dt
 | [.z x0,.z x1,.z x2,.z x3,.z x4,.z x5]=>mK ⟨x0,x1,x2,x3,x4,x5⟩
 | _=>[]
def sT_vnar:Tr:=
(.call 0 [.bool] (.vs 0 6 .nil) 6
(.br (.bw 6)
(.call 2 (kRg) .nil 7
(.call 3 (kRg++[.bool]) (.vs 0 5 (.cons (.bin .or .u64 (.var 4) (.var 5)) (.vs 9 2 .nil))) 11
(.br (.bw 15)
(.call 5 (kKn) (.vs 11 4 .nil) 16
(.call 4 (kKn++[.bool]) (.vs 4 2 (.vs 16 2 .nil)) 18
(.br (.bw 20)
(.call 3 (kRg++[.bool]) (.vs 11 4 (.cons (.var 18) (.cons (.bin .or .u64 (.var 18) (.var 19)) (.vs 9 2 .nil)))) 21
(.br (.bw 25)
(.call 5 (kKn) (.vs 21 4 .nil) 26
(.call 4 (kKn++[.bool]) (.vs 18 2 (.vs 26 2 .nil)) 28
(.br (.bw 30)
(.leaf (.vs 21 4 (.vs 28 2 (.cb (.tt true) .nil))))
(.call 1 (kSc) .nil 31
(.leaf (.vs 31 6 (.cb (.tt false) .nil)))))))
(.call 1 (kSc) .nil 26
(.leaf (.vs 26 6 (.cb (.tt false) .nil))))))
(.call 1 (kSc) .nil 21
(.leaf (.vs 21 6 (.cb (.tt false) .nil)))))))
(.call 1 (kSc) .nil 16
(.leaf (.vs 16 6 (.cb (.tt false) .nil)))))))
(.call 1 (kSc) .nil 7
(.leaf (.vs 7 6 (.cb (.tt false) .nil))))))
def aeo:Spec:={F:=fun k=>match k with | 0=>bU | 1=>ct | 2=>bv | 3=>iV | 4=>fx | 5=>nI | _=>fun _=>[],pre:=fun _ _=>True}
theorem amW:ap tys_VaB [fl 0,fZ 1,dH 2,rK 3,mg 4,wY 5] [] [] [] 200 Tryz.f151 [.agg kSc] [.agg kSc,.one .bool] true [.int .u64,.int .u64,.int .i64,.int .i64,.int .u64,.int .u64] sT_vnar:=⟨by kernel_rfl,by kernel_rfl,by kernel_rfl⟩
theorem amg (a:Sc) (ha:Sc.ok a) (U:Env) (g:varsD U 0 [.int .u64,.int .u64,.int .i64,.int .i64,.int .u64,.int .u64]=[.z a.ul,.z a.uh,.z a.sl,.z a.sh,.z a.v,.z a.m]):sT_vnar.asks aeo (fun U e=>e.D U=fq [.z a.ul,.z a.uh,.z a.sl,.z a.sh,.z a.v,.z a.m]) U fun _ _=>False:=by
 simp only[varsD,varD,thm5,gS0,Nat.reduceAdd,and_true] at g
 simp only[sT_vnar,aeo,kKn,kRg,kSc,bU,ct,bv,iV,fx,nI,fk,qV,lZ,wE,fq,mK,simQ,af,S1,Nat.reduceSub,Nat.reduceAdd,-eq_self,aq,g]
 intro e;(try simp only[e,aq,-eq_self]);clear e
 constructor<;>intro c0
 intro e;(try simp only[e,aq,-eq_self]);clear e
 intro e;(try simp only[e,aq,-eq_self]);clear e
 constructor<;>intro c1
 intro e;(try simp only[e,aq,-eq_self]);clear e
 intro e;(try simp only[e,aq,-eq_self]);clear e
 constructor<;>intro c2
 intro e;(try simp only[e,aq,-eq_self]);clear e
 constructor<;>intro c3
 intro e;(try simp only[e,aq,-eq_self]);clear e
 intro e;(try simp only[e,aq,-eq_self]);clear e
 constructor<;>intro c4
 ·(have q:=vn_t (a:=a) c0 c1 c2 c3 c4;rw[q.1,q.2];try rfl)
 intro e;(try simp only[e,aq,-eq_self]);clear e
 ·(have q:=vn_f (a:=a) (.inr (.inr (.inr (.inr (c4)))));rw[q.1,q.2];try rfl)
 intro e;(try simp only[e,aq,-eq_self]);clear e
 ·(have q:=vn_f (a:=a) (.inr (.inr (.inr (.inl c3))));rw[q.1,q.2];try rfl)
 intro e;(try simp only[e,aq,-eq_self]);clear e
 ·(have q:=vn_f (a:=a) (.inr (.inr (.inl c2)));rw[q.1,q.2];try rfl)
 intro e;(try simp only[e,aq,-eq_self]);clear e
 ·(have q:=vn_f (a:=a) (.inr (.inl c1));rw[q.1,q.2];try rfl)
 intro e;(try simp only[e,aq,-eq_self]);clear e
 ·(have q:=vn_f (a:=a) (.inl c0);rw[q.1,q.2];try rfl)
theorem xw {sp:Spec} {key:Nat} (hF:sp.F key=fq) (hP:sp.pre key=fun _=>True:=by rfl):SmOk Tryz.prog sp (nc key):=
 au (s:=nc key) hF hP kf bt (smc (iO rfl) (smc (kM rfl) (smc (eU rfl) (smc (afq rfl) (smc (zF rfl) (smc (anF rfl) sm0)))))) Tryz.func151 fn0 amW (.inl rfl) (fun x0 gx0 x1 gx1 x2 gx2 x3 gx3 x4 gx4 x5 gx5 hp U g=>amg ⟨x0,x1,x2,x3,x4,x5⟩ ⟨gx0,gx1,gx2,gx3,gx4,gx5⟩ U g)
def eb (key:Nat):Sm:=⟨187,key,[.agg kSc],[.agg kSc],false⟩
def dZ (a:Sc):List Dt:=[.z ((vnar a).ul),.z ((vnar a).uh),.z ((vnar a).sl),.z ((vnar a).sh),.z ((vnar a).v),.z ((vnar a).m)]
def bH:List Dt->List Dt
 | [.z x0,.z x1,.z x2,.z x3,.z x4,.z x5]=>dZ ⟨x0,x1,x2,x3,x4,x5⟩
 | _=>[]
def sT_vnard:Tr:=
(.call 0 (kSc++[.bool]) (.vs 0 6 .nil) 6
(.leaf (.vs 6 6 .nil)))
def za:Spec:={F:=fun k=>match k with | 0=>fq | _=>fun _=>[],pre:=fun _ _=>True}
theorem aiv:ap tys_VaB [nc 0] [] [] [] 200 Tryz.f187 [.agg kSc] [.agg kSc] false [.int .u64,.int .u64,.int .i64,.int .i64,.int .u64,.int .u64] sT_vnard:=⟨by kernel_rfl,by kernel_rfl,by kernel_rfl⟩
theorem ah1 (a:Sc) (ha:Sc.ok a) (U:Env) (g:varsD U 0 [.int .u64,.int .u64,.int .i64,.int .i64,.int .u64,.int .u64]=[.z a.ul,.z a.uh,.z a.sl,.z a.sh,.z a.v,.z a.m]):sT_vnard.asks za (fun U e=>e.D U=bH [.z a.ul,.z a.uh,.z a.sl,.z a.sh,.z a.v,.z a.m]) U fun _ _=>False:=by
 simp only[varsD,varD,thm5,gS0,Nat.reduceAdd,and_true] at g
 simp only[sT_vnard,za,kSc,fq,mK,bH,dZ,simQ,af,S1,Nat.reduceSub,Nat.reduceAdd,-eq_self,aq,g]
 intro e;(try simp only[e,aq,-eq_self]);clear e
 ·rfl
theorem gS {sp:Spec} {key:Nat} (hF:sp.F key=bH) (hP:sp.pre key=fun _=>True:=by rfl):SmOk Tryz.prog sp (eb key):=
 au (s:=eb key) hF hP kf bt (smc (xw rfl) sm0) Tryz.func187 fn0 aiv (.inl rfl) (fun x0 gx0 x1 gx1 x2 gx2 x3 gx3 x4 gx4 x5 gx5 hp U g=>ah1 ⟨x0,x1,x2,x3,x4,x5⟩ ⟨gx0,gx1,gx2,gx3,gx4,gx5⟩ U g)
def rk (key:Nat):Sm:=⟨152,key,[.agg kSc,.agg kSc,.one (.fn 153),.one (.fn 154)],[.agg kSc],false⟩
def qG (a:Sc) (b:Sc):List Dt:=[.z ((fT a b).ul),.z ((fT a b).uh),.z ((fT a b).sl),.z ((fT a b).sh),.z ((fT a b).v),.z ((fT a b).m)]
def jA:List Dt->List Dt
 | [.z x0,.z x1,.z x2,.z x3,.z x4,.z x5,.z x6,.z x7,.z x8,.z x9,.z x10,.z x11]=>qG ⟨x0,x1,x2,x3,x4,x5⟩ ⟨x6,x7,x8,x9,x10,x11⟩
 | _=>[]
def sT_vtwoj:Tr:=
(.call 0 [.bool] (.vs 0 6 .nil) 12
(.br (.bw 12)
(.call 0 [.bool] (.vs 6 6 .nil) 13
(.br (.bw 13)
(.call 3 (kRg) (.vs 0 4 (.vs 6 4 .nil)) 14
(.call 4 (kKn) (.vs 4 2 (.vs 10 2 .nil)) 18
(.call 2 (kSc) (.vs 14 6 .nil) 20
(.leaf (.vs 20 6 .nil)))))
(.call 1 (kSc) .nil 14
(.leaf (.vs 14 6 .nil)))))
(.call 1 (kSc) .nil 13
(.leaf (.vs 13 6 .nil)))))
def yZ:Spec:={F:=fun k=>match k with | 0=>bU | 1=>ct | 2=>bH | 3=>nX | 4=>fy | _=>fun _=>[],pre:=fun _ _=>True}
theorem aiu:ap tys_VaB [fl 0,fZ 1,eb 2,xq 3,mh 4] [] [] [] 200 Tryz.f152 [.agg kSc,.agg kSc,.one (.fn 153),.one (.fn 154)] [.agg kSc] false [.int .u64,.int .u64,.int .i64,.int .i64,.int .u64,.int .u64,.int .u64,.int .u64,.int .i64,.int .i64,.int .u64,.int .u64] sT_vtwoj:=⟨by kernel_rfl,by kernel_rfl,by kernel_rfl⟩
theorem ah0 (a:Sc) (ha:Sc.ok a) (b:Sc) (hb:Sc.ok b) (U:Env) (g:varsD U 0 [.int .u64,.int .u64,.int .i64,.int .i64,.int .u64,.int .u64,.int .u64,.int .u64,.int .i64,.int .i64,.int .u64,.int .u64]=[.z a.ul,.z a.uh,.z a.sl,.z a.sh,.z a.v,.z a.m,.z b.ul,.z b.uh,.z b.sl,.z b.sh,.z b.v,.z b.m]):sT_vtwoj.asks yZ (fun U e=>e.D U=jA [.z a.ul,.z a.uh,.z a.sl,.z a.sh,.z a.v,.z a.m,.z b.ul,.z b.uh,.z b.sl,.z b.sh,.z b.v,.z b.m]) U fun _ _=>False:=by
 simp only[varsD,varD,thm5,gS0,Nat.reduceAdd,and_true] at g
 simp only[sT_vtwoj,yZ,kKn,kRg,kSc,bU,ct,bH,nX,fy,fk,dZ,wP,mc,jA,qG,simQ,af,S1,Nat.reduceSub,Nat.reduceAdd,-eq_self,aq,g]
 intro e;(try simp only[e,aq,-eq_self]);clear e
 constructor<;>intro c0
 intro e;(try simp only[e,aq,-eq_self]);clear e
 constructor<;>intro c1
 intro e;(try simp only[e,aq,-eq_self]);clear e
 intro e;(try simp only[e,aq,-eq_self]);clear e
 intro e;(try simp only[e,aq,-eq_self]);clear e
 ·(rw[show fT a b=vnar (sc (o8 a.r b.r) (sC a.k b.k)) from if_pos ⟨c0,c1⟩];try rfl)
 intro e;(try simp only[e,aq,-eq_self]);clear e
 ·(rw[show fT a b=vall from if_neg (fun q=>by simp_all)];try rfl)
 intro e;(try simp only[e,aq,-eq_self]);clear e
 ·(rw[show fT a b=vall from if_neg (fun q=>by simp_all)];try rfl)
theorem aiW {sp:Spec} {key:Nat} (hF:sp.F key=jA) (hP:sp.pre key=fun _=>True:=by rfl):SmOk Tryz.prog sp (rk key):=
 au (s:=rk key) hF hP kf bt (smc (iO rfl) (smc (kM rfl) (smc (gS rfl) (smc (anT rfl) (smc (zG rfl) sm0))))) Tryz.func152 fn0 aiu (.inl rfl) (fun x0 gx0 x1 gx1 x2 gx2 x3 gx3 x4 gx4 x5 gx5 x6 gx6 x7 gx7 x8 gx8 x9 gx9 x10 gx10 x11 gx11 hp U g=>ah0 ⟨x0,x1,x2,x3,x4,x5⟩ ⟨gx0,gx1,gx2,gx3,gx4,gx5⟩ ⟨x6,x7,x8,x9,x10,x11⟩ ⟨gx6,gx7,gx8,gx9,gx10,gx11⟩ U g)
def rn (key:Nat):Sm:=⟨91,key,[.agg kSc,.agg kSc],[.agg kSc],false⟩
def qH (a:Sc) (b:Sc):List Dt:=[.z ((fT a b).ul),.z ((fT a b).uh),.z ((fT a b).sl),.z ((fT a b).sh),.z ((fT a b).v),.z ((fT a b).m)]
def jB:List Dt->List Dt
 | [.z x0,.z x1,.z x2,.z x3,.z x4,.z x5,.z x6,.z x7,.z x8,.z x9,.z x10,.z x11]=>qH ⟨x0,x1,x2,x3,x4,x5⟩ ⟨x6,x7,x8,x9,x10,x11⟩
 | _=>[]
def sT_vjoin:Tr:=
(.call 0 (kSc) (.vs 0 12 .nil) 12
(.leaf (.vs 12 6 .nil)))
def zc:Spec:={F:=fun k=>match k with | 0=>jA | _=>fun _=>[],pre:=fun _ _=>True}
theorem aiw:ap tys_VaB [rk 0] [] [] [] 200 Tryz.f91 [.agg kSc,.agg kSc] [.agg kSc] false [.int .u64,.int .u64,.int .i64,.int .i64,.int .u64,.int .u64,.int .u64,.int .u64,.int .i64,.int .i64,.int .u64,.int .u64] sT_vjoin:=⟨by kernel_rfl,by kernel_rfl,by kernel_rfl⟩
theorem ah2 (a:Sc) (ha:Sc.ok a) (b:Sc) (hb:Sc.ok b) (U:Env) (g:varsD U 0 [.int .u64,.int .u64,.int .i64,.int .i64,.int .u64,.int .u64,.int .u64,.int .u64,.int .i64,.int .i64,.int .u64,.int .u64]=[.z a.ul,.z a.uh,.z a.sl,.z a.sh,.z a.v,.z a.m,.z b.ul,.z b.uh,.z b.sl,.z b.sh,.z b.v,.z b.m]):sT_vjoin.asks zc (fun U e=>e.D U=jB [.z a.ul,.z a.uh,.z a.sl,.z a.sh,.z a.v,.z a.m,.z b.ul,.z b.uh,.z b.sl,.z b.sh,.z b.v,.z b.m]) U fun _ _=>False:=by
 simp only[varsD,varD,thm5,gS0,Nat.reduceAdd,and_true] at g
 simp only[sT_vjoin,zc,kSc,jA,qG,jB,qH,simQ,af,S1,Nat.reduceSub,Nat.reduceAdd,-eq_self,aq,g]
 intro e;(try simp only[e,aq,-eq_self]);clear e
 ·rfl
theorem aiX {sp:Spec} {key:Nat} (hF:sp.F key=jB) (hP:sp.pre key=fun _=>True:=by rfl):SmOk Tryz.prog sp (rn key):=
 au (s:=rn key) hF hP kf bt (smc (aiW rfl) sm0) Tryz.func91 fn0 aiw (.inl rfl) (fun x0 gx0 x1 gx1 x2 gx2 x3 gx3 x4 gx4 x5 gx5 x6 gx6 x7 gx7 x8 gx8 x9 gx9 x10 gx10 x11 gx11 hp U g=>ah2 ⟨x0,x1,x2,x3,x4,x5⟩ ⟨gx0,gx1,gx2,gx3,gx4,gx5⟩ ⟨x6,x7,x8,x9,x10,x11⟩ ⟨gx6,gx7,gx8,gx9,gx10,gx11⟩ U g)
def rq (key:Nat):Sm:=⟨157,key,[.one (.int .u64),.one (.int .u64),.one (.int .u64),.one .bool],[.one (.int .u64)],false⟩
def qJ (a:Int) (b:Int) (c:Int) (t:Bool):List Dt:=[.z (if(a==b)=false/\t=true then c else a)]
def jD:List Dt->List Dt
 | [.z x0,.z x1,.z x2,.z x3]=>qJ x0 x1 x2 (x3==1)
 | _=>[]
def sT_vendu:Tr:=
(.br (.eq (.var 0) (.var 1))
(.leaf (.cons (.var 0) .nil))
(.br (.bw 3)
(.leaf (.cons (.var 2) .nil))
(.leaf (.cons (.var 0) .nil))))
def ze:Spec:={F:=fun k=>match k with | _=>fun _=>[],pre:=fun _ _=>True}
theorem aiy:ap tys_VaB [] [] [] [] 200 Tryz.f157 [.one (.int .u64),.one (.int .u64),.one (.int .u64),.one .bool] [.one (.int .u64)] false [.int .u64,.int .u64,.int .u64,.bool] sT_vendu:=⟨by kernel_rfl,by kernel_rfl,by kernel_rfl⟩
theorem ah4 (a:Int) (ha:inK .u64 a=true) (b:Int) (hb:inK .u64 b=true) (c:Int) (hc:inK .u64 c=true) (t:Bool) (U:Env) (g:varsD U 0 [.int .u64,.int .u64,.int .u64,.bool]=[.z a,.z b,.z c,.z (b2i t)]):sT_vendu.asks ze (fun U e=>e.D U=jD [.z a,.z b,.z c,.z (b2i t)]) U fun _ _=>False:=by
 simp only[varsD,varD,thm5,gS0,Nat.reduceAdd,and_true] at g
 simp only[sT_vendu,ze,jD,qJ,simQ,af,S1,Nat.reduceSub,Nat.reduceAdd,-eq_self,Sc.eta_r,Sc.eta_k,Sc.eta_2,g]
 constructor<;>intro c0
 ·(simp_all)
 constructor<;>intro c1
 ·(simp_all)
 ·(simp_all)
theorem aiZ {sp:Spec} {key:Nat} (hF:sp.F key=jD) (hP:sp.pre key=fun _=>True:=by rfl):SmOk Tryz.prog sp (rq key):=
 au (s:=rq key) hF hP kf bt (sm0) Tryz.func157 fn0 aiy (.inl rfl) (fun x0 gx0 x1 gx1 x2 gx2 x3 hp U g=>ah4 x0 gx0 x1 gx1 x2 gx2 x3 U g)
def rt (key:Nat):Sm:=⟨158,key,[.one (.int .i64),.one (.int .i64),.one (.int .i64),.one .bool],[.one (.int .i64)],false⟩
def qK (a:Int) (b:Int) (c:Int) (t:Bool):List Dt:=[.z (if(a==b)=false/\t=true then c else a)]
def jE:List Dt->List Dt
 | [.z x0,.z x1,.z x2,.z x3]=>qK x0 x1 x2 (x3==1)
 | _=>[]
def sT_vendi:Tr:=
(.br (.eq (.var 0) (.var 1))
(.leaf (.cons (.var 0) .nil))
(.br (.bw 3)
(.leaf (.cons (.var 2) .nil))
(.leaf (.cons (.var 0) .nil))))
def zf:Spec:={F:=fun k=>match k with | _=>fun _=>[],pre:=fun _ _=>True}
theorem aiz:ap tys_VaB [] [] [] [] 200 Tryz.f158 [.one (.int .i64),.one (.int .i64),.one (.int .i64),.one .bool] [.one (.int .i64)] false [.int .i64,.int .i64,.int .i64,.bool] sT_vendi:=⟨by kernel_rfl,by kernel_rfl,by kernel_rfl⟩
theorem ah5 (a:Int) (ha:inK .i64 a=true) (b:Int) (hb:inK .i64 b=true) (c:Int) (hc:inK .i64 c=true) (t:Bool) (U:Env) (g:varsD U 0 [.int .i64,.int .i64,.int .i64,.bool]=[.z a,.z b,.z c,.z (b2i t)]):sT_vendi.asks zf (fun U e=>e.D U=jE [.z a,.z b,.z c,.z (b2i t)]) U fun _ _=>False:=by
 simp only[varsD,varD,thm5,gS0,Nat.reduceAdd,and_true] at g
 simp only[sT_vendi,zf,jE,qK,simQ,af,S1,Nat.reduceSub,Nat.reduceAdd,-eq_self,Sc.eta_r,Sc.eta_k,Sc.eta_2,g]
 constructor<;>intro c0
 ·(simp_all)
 constructor<;>intro c1
 ·(simp_all)
 ·(simp_all)
theorem ai0 {sp:Spec} {key:Nat} (hF:sp.F key=jE) (hP:sp.pre key=fun _=>True:=by rfl):SmOk Tryz.prog sp (rt key):=
 au (s:=rt key) hF hP kf bt (sm0) Tryz.func158 fn0 aiz (.inl rfl) (fun x0 gx0 x1 gx1 x2 gx2 x3 hp U g=>ah5 x0 gx0 x1 gx1 x2 gx2 x3 U g)
def ri (key:Nat):Sm:=⟨155,key,[.agg kRg,.agg kRg],[.agg kRg],false⟩
def qE (a:Rg) (b:Rg):List Dt:=[.z ((bwid a b).ul),.z ((bwid a b).uh),.z ((bwid a b).sl),.z ((bwid a b).sh)]
def jy:List Dt->List Dt
 | [.z x0,.z x1,.z x2,.z x3,.z x4,.z x5,.z x6,.z x7]=>qE ⟨x0,x1,x2,x3⟩ ⟨x4,x5,x6,x7⟩
 | _=>[]
def sT_vwid0:Tr:=
(.call 0 (kRg) .nil 8
(.call 1 [.int .u64] (.cons (.var 0) (.cons (.var 4) (.cons (.var 8) (.cb (.lt (.var 4) (.var 0)) .nil)))) 12
(.call 1 [.int .u64] (.cons (.var 1) (.cons (.var 5) (.cons (.var 9) (.cb (.lt (.var 1) (.var 5)) .nil)))) 13
(.call 2 [.int .i64] (.cons (.var 2) (.cons (.var 6) (.cons (.var 10) (.cb (.lt (.var 6) (.var 2)) .nil)))) 14
(.call 2 [.int .i64] (.cons (.var 3) (.cons (.var 7) (.cons (.var 11) (.cb (.lt (.var 3) (.var 7)) .nil)))) 15
(.leaf (.vs 12 4 .nil)))))))
def yX:Spec:={F:=fun k=>match k with | 0=>bv | 1=>jD | 2=>jE | _=>fun _=>[],pre:=fun _ _=>True}
theorem ais:ap tys_VaB [dH 0,rq 1,rt 2] [] [] [] 200 Tryz.f155 [.agg kRg,.agg kRg] [.agg kRg] false [.int .u64,.int .u64,.int .i64,.int .i64,.int .u64,.int .u64,.int .i64,.int .i64] sT_vwid0:=⟨by kernel_rfl,by kernel_rfl,by kernel_rfl⟩
theorem ahY (a:Rg) (ha:Rg.ok a) (b:Rg) (hb:Rg.ok b) (U:Env) (g:varsD U 0 [.int .u64,.int .u64,.int .i64,.int .i64,.int .u64,.int .u64,.int .i64,.int .i64]=[.z a.ul,.z a.uh,.z a.sl,.z a.sh,.z b.ul,.z b.uh,.z b.sl,.z b.sh]):sT_vwid0.asks yX (fun U e=>e.D U=jy [.z a.ul,.z a.uh,.z a.sl,.z a.sh,.z b.ul,.z b.uh,.z b.sl,.z b.sh]) U fun _ _=>False:=by
 simp only[varsD,varD,thm5,gS0,Nat.reduceAdd,and_true] at g
 simp only[sT_vwid0,yX,kRg,bv,jD,jE,qJ,qK,jy,qE,simQ,af,S1,Nat.reduceSub,Nat.reduceAdd,-eq_self,aq,g]
 intro e;(try simp only[e,aq,-eq_self]);clear e
 intro e;(try simp only[e,aq,-eq_self]);clear e
 intro e;(try simp only[e,aq,-eq_self]);clear e
 intro e;(try simp only[e,aq,-eq_self]);clear e
 intro e;(try simp only[e,aq,-eq_self]);clear e
 ·rfl
theorem aiU {sp:Spec} {key:Nat} (hF:sp.F key=jy) (hP:sp.pre key=fun _=>True:=by rfl):SmOk Tryz.prog sp (ri key):=
 au (s:=ri key) hF hP kf bt (smc (eU rfl) (smc (aiZ rfl) (smc (ai0 rfl) sm0))) Tryz.func155 fn0 ais (.inl rfl) (fun x0 gx0 x1 gx1 x2 gx2 x3 gx3 x4 gx4 x5 gx5 x6 gx6 x7 gx7 hp U g=>ahY ⟨x0,x1,x2,x3⟩ ⟨gx0,gx1,gx2,gx3⟩ ⟨x4,x5,x6,x7⟩ ⟨gx4,gx5,gx6,gx7⟩ U g)
def rj (key:Nat):Sm:=⟨152,key,[.agg kSc,.agg kSc,.one (.fn 155),.one (.fn 154)],[.agg kSc],false⟩
def qF (a:Sc) (b:Sc):List Dt:=[.z ((vwid a b).ul),.z ((vwid a b).uh),.z ((vwid a b).sl),.z ((vwid a b).sh),.z ((vwid a b).v),.z ((vwid a b).m)]
def jz:List Dt->List Dt
 | [.z x0,.z x1,.z x2,.z x3,.z x4,.z x5,.z x6,.z x7,.z x8,.z x9,.z x10,.z x11]=>qF ⟨x0,x1,x2,x3,x4,x5⟩ ⟨x6,x7,x8,x9,x10,x11⟩
 | _=>[]
def sT_vtwow:Tr:=
(.call 0 [.bool] (.vs 0 6 .nil) 12
(.br (.bw 12)
(.call 0 [.bool] (.vs 6 6 .nil) 13
(.br (.bw 13)
(.call 3 (kRg) (.vs 0 4 (.vs 6 4 .nil)) 14
(.call 4 (kKn) (.vs 4 2 (.vs 10 2 .nil)) 18
(.call 2 (kSc) (.vs 14 6 .nil) 20
(.leaf (.vs 20 6 .nil)))))
(.call 1 (kSc) .nil 14
(.leaf (.vs 14 6 .nil)))))
(.call 1 (kSc) .nil 13
(.leaf (.vs 13 6 .nil)))))
def yY:Spec:={F:=fun k=>match k with | 0=>bU | 1=>ct | 2=>bH | 3=>jy | 4=>fy | _=>fun _=>[],pre:=fun _ _=>True}
theorem ait:ap tys_VaB [fl 0,fZ 1,eb 2,ri 3,mh 4] [] [] [] 200 Tryz.f152 [.agg kSc,.agg kSc,.one (.fn 155),.one (.fn 154)] [.agg kSc] false [.int .u64,.int .u64,.int .i64,.int .i64,.int .u64,.int .u64,.int .u64,.int .u64,.int .i64,.int .i64,.int .u64,.int .u64] sT_vtwow:=⟨by kernel_rfl,by kernel_rfl,by kernel_rfl⟩
theorem ahZ (a:Sc) (ha:Sc.ok a) (b:Sc) (hb:Sc.ok b) (U:Env) (g:varsD U 0 [.int .u64,.int .u64,.int .i64,.int .i64,.int .u64,.int .u64,.int .u64,.int .u64,.int .i64,.int .i64,.int .u64,.int .u64]=[.z a.ul,.z a.uh,.z a.sl,.z a.sh,.z a.v,.z a.m,.z b.ul,.z b.uh,.z b.sl,.z b.sh,.z b.v,.z b.m]):sT_vtwow.asks yY (fun U e=>e.D U=jz [.z a.ul,.z a.uh,.z a.sl,.z a.sh,.z a.v,.z a.m,.z b.ul,.z b.uh,.z b.sl,.z b.sh,.z b.v,.z b.m]) U fun _ _=>False:=by
 simp only[varsD,varD,thm5,gS0,Nat.reduceAdd,and_true] at g
 simp only[sT_vtwow,yY,kKn,kRg,kSc,bU,ct,bH,jy,fy,fk,dZ,qE,mc,jz,qF,simQ,af,S1,Nat.reduceSub,Nat.reduceAdd,-eq_self,aq,g]
 intro e;(try simp only[e,aq,-eq_self]);clear e
 constructor<;>intro c0
 intro e;(try simp only[e,aq,-eq_self]);clear e
 constructor<;>intro c1
 intro e;(try simp only[e,aq,-eq_self]);clear e
 intro e;(try simp only[e,aq,-eq_self]);clear e
 intro e;(try simp only[e,aq,-eq_self]);clear e
 ·(rw[show vwid a b=vnar (sc (bwid a.r b.r) (sC a.k b.k)) from if_pos ⟨c0,c1⟩];try rfl)
 intro e;(try simp only[e,aq,-eq_self]);clear e
 ·(rw[show vwid a b=vall from if_neg (fun q=>by simp_all)];try rfl)
 intro e;(try simp only[e,aq,-eq_self]);clear e
 ·(rw[show vwid a b=vall from if_neg (fun q=>by simp_all)];try rfl)
theorem aiV {sp:Spec} {key:Nat} (hF:sp.F key=jz) (hP:sp.pre key=fun _=>True:=by rfl):SmOk Tryz.prog sp (rj key):=
 au (s:=rj key) hF hP kf bt (smc (iO rfl) (smc (kM rfl) (smc (gS rfl) (smc (aiU rfl) (smc (zG rfl) sm0))))) Tryz.func152 fn0 ait (.inl rfl) (fun x0 gx0 x1 gx1 x2 gx2 x3 gx3 x4 gx4 x5 gx5 x6 gx6 x7 gx7 x8 gx8 x9 gx9 x10 gx10 x11 gx11 hp U g=>ahZ ⟨x0,x1,x2,x3,x4,x5⟩ ⟨gx0,gx1,gx2,gx3,gx4,gx5⟩ ⟨x6,x7,x8,x9,x10,x11⟩ ⟨gx6,gx7,gx8,gx9,gx10,gx11⟩ U g)
def wT (key:Nat):Sm:=⟨93,key,[.agg kSc,.agg kSc],[.agg kSc],false⟩
def wC (a:Sc) (b:Sc):List Dt:=[.z ((vwid a b).ul),.z ((vwid a b).uh),.z ((vwid a b).sl),.z ((vwid a b).sh),.z ((vwid a b).v),.z ((vwid a b).m)]
def nF:List Dt->List Dt
 | [.z x0,.z x1,.z x2,.z x3,.z x4,.z x5,.z x6,.z x7,.z x8,.z x9,.z x10,.z x11]=>wC ⟨x0,x1,x2,x3,x4,x5⟩ ⟨x6,x7,x8,x9,x10,x11⟩
 | _=>[]
def sT_vwid:Tr:=
(.call 0 (kSc) (.vs 0 12 .nil) 12
(.leaf (.vs 12 6 .nil)))
def ael:Spec:={F:=fun k=>match k with | 0=>jz | _=>fun _=>[],pre:=fun _ _=>True}
theorem amR:ap tys_VaB [rj 0] [] [] [] 200 Tryz.f93 [.agg kSc,.agg kSc] [.agg kSc] false [.int .u64,.int .u64,.int .i64,.int .i64,.int .u64,.int .u64,.int .u64,.int .u64,.int .i64,.int .i64,.int .u64,.int .u64] sT_vwid:=⟨by kernel_rfl,by kernel_rfl,by kernel_rfl⟩
theorem amb (a:Sc) (ha:Sc.ok a) (b:Sc) (hb:Sc.ok b) (U:Env) (g:varsD U 0 [.int .u64,.int .u64,.int .i64,.int .i64,.int .u64,.int .u64,.int .u64,.int .u64,.int .i64,.int .i64,.int .u64,.int .u64]=[.z a.ul,.z a.uh,.z a.sl,.z a.sh,.z a.v,.z a.m,.z b.ul,.z b.uh,.z b.sl,.z b.sh,.z b.v,.z b.m]):sT_vwid.asks ael (fun U e=>e.D U=nF [.z a.ul,.z a.uh,.z a.sl,.z a.sh,.z a.v,.z a.m,.z b.ul,.z b.uh,.z b.sl,.z b.sh,.z b.v,.z b.m]) U fun _ _=>False:=by
 simp only[varsD,varD,thm5,gS0,Nat.reduceAdd,and_true] at g
 simp only[sT_vwid,ael,kSc,jz,qF,nF,wC,simQ,af,S1,Nat.reduceSub,Nat.reduceAdd,-eq_self,aq,g]
 intro e;(try simp only[e,aq,-eq_self]);clear e
 ·rfl
theorem anA {sp:Spec} {key:Nat} (hF:sp.F key=nF) (hP:sp.pre key=fun _=>True:=by rfl):SmOk Tryz.prog sp (wT key):=
 au (s:=wT key) hF hP kf bt (smc (aiV rfl) sm0) Tryz.func93 fn0 amR (.inl rfl) (fun x0 gx0 x1 gx1 x2 gx2 x3 gx3 x4 gx4 x5 gx5 x6 gx6 x7 gx7 x8 gx8 x9 gx9 x10 gx10 x11 gx11 hp U g=>amb ⟨x0,x1,x2,x3,x4,x5⟩ ⟨gx0,gx1,gx2,gx3,gx4,gx5⟩ ⟨x6,x7,x8,x9,x10,x11⟩ ⟨gx6,gx7,gx8,gx9,gx10,gx11⟩ U g)
def wW (key:Nat):Sm:=⟨190,key,[.agg kSc],[.agg kSc],false⟩
def wD (a:Sc):List Dt:=[.z ((vlow a).ul),.z ((vlow a).uh),.z ((vlow a).sl),.z ((vlow a).sh),.z ((vlow a).v),.z ((vlow a).m)]
def nH:List Dt->List Dt
 | [.z x0,.z x1,.z x2,.z x3,.z x4,.z x5]=>wD ⟨x0,x1,x2,x3,x4,x5⟩
 | _=>[]
def sT_vlow:Tr:=
(.call 0 (kRg) (.vs 0 4 .nil) 6
(.call 1 (kKn) (.vs 4 2 (.cons (.lit 32) .nil)) 10
(.call 2 (kSc) (.vs 6 6 .nil) 12
(.leaf (.vs 12 6 .nil)))))
def aeq:Spec:={F:=fun k=>match k with | 0=>nR | 1=>iX | 2=>bH | _=>fun _=>[],pre:=fun _ _=>True}
theorem amY:ap tys_VaB [zC 0,rM 1,eb 2] [] [] [] 200 Tryz.f190 [.agg kSc] [.agg kSc] false [.int .u64,.int .u64,.int .i64,.int .i64,.int .u64,.int .u64] sT_vlow:=⟨by kernel_rfl,by kernel_rfl,by kernel_rfl⟩
theorem ami (a:Sc) (ha:Sc.ok a) (U:Env) (g:varsD U 0 [.int .u64,.int .u64,.int .i64,.int .i64,.int .u64,.int .u64]=[.z a.ul,.z a.uh,.z a.sl,.z a.sh,.z a.v,.z a.m]):sT_vlow.asks aeq (fun U e=>e.D U=nH [.z a.ul,.z a.uh,.z a.sl,.z a.sh,.z a.v,.z a.m]) U fun _ _=>False:=by
 simp only[varsD,varD,thm5,gS0,Nat.reduceAdd,and_true] at g
 simp only[sT_vlow,aeq,kKn,kRg,kSc,nR,iX,bH,yV,qX,dZ,nH,wD,simQ,af,S1,Nat.reduceSub,Nat.reduceAdd,-eq_self,aq,g]
 intro e;(try simp only[e,aq,-eq_self]);clear e
 intro e;(try simp only[e,aq,-eq_self]);clear e
 intro e;(try simp only[e,aq,-eq_self]);clear e
 ·rfl
theorem anD {sp:Spec} {key:Nat} (hF:sp.F key=nH) (hP:sp.pre key=fun _=>True:=by rfl):SmOk Tryz.prog sp (wW key):=
 au (s:=wW key) hF hP kf bt (smc (akw rfl) (smc (aft rfl) (smc (gS rfl) sm0))) Tryz.func190 fn0 amY (.inl rfl) (fun x0 gx0 x1 gx1 x2 gx2 x3 gx3 x4 gx4 x5 gx5 hp U g=>ami ⟨x0,x1,x2,x3,x4,x5⟩ ⟨gx0,gx1,gx2,gx3,gx4,gx5⟩ U g)
def rp (key:Nat):Sm:=⟨191,key,[.one (.int .i8),.agg kSc,.agg kSc],[.agg kRg],false⟩
def qI (op:Int) (a:Sc) (b:Sc):List Dt:=[.z ((dj op a b).ul),.z ((dj op a b).uh),.z ((dj op a b).sl),.z ((dj op a b).sh)]
def jC:List Dt->List Dt
 | [.z x0,.z x1,.z x2,.z x3,.z x4,.z x5,.z x6,.z x7,.z x8,.z x9,.z x10,.z x11,.z x12]=>qI x0 ⟨x1,x2,x3,x4,x5,x6⟩ ⟨x7,x8,x9,x10,x11,x12⟩
 | _=>[]
def alz:Tr:=(.call 2 [.int .u64,.bool] (.vs 7 6 .nil) 21
(.br (.bw 22)
(.call 3 (kSc) (.cons (.bin .and .u64 (.var 21) (.lit 31)) .nil) 23
(.call 4 (kRg) (.vs 0 5 (.vs 23 4 .nil)) 29
(.br (.lt (.var 30) (.lit 4294967296))
(.leaf (.vs 29 4 .nil))
(.leaf (.vs 17 4 .nil)))))
(.leaf (.vs 17 4 .nil))))
def sT_vhalf:Tr:=
(.call 0 (kRg) .nil 13
(.call 1 (kRg) (.vs 13 4 .nil) 17
(.br (.eq (.var 0) (.lit 8))
(.leaf (.vs 17 4 .nil))
(.br (.eq (.var 0) (.lit 12))
(.leaf (.vs 17 4 .nil))
(.br (.eq (.var 0) (.lit 6))
 alz
(.br (.eq (.var 0) (.lit 7))
 alz
(.call 4 (kRg) (.vs 0 5 (.vs 7 4 .nil)) 21
(.br (.lt (.var 22) (.lit 4294967296))
(.leaf (.vs 21 4 .nil))
(.leaf (.vs 17 4 .nil))))))))))
def zd:Spec:={F:=fun k=>match k with | 0=>bv | 1=>nR | 2=>eV | 3=>dn | 4=>xA | _=>fun _=>[],pre:=fun _ _=>True}
theorem aix:ap tys_VaB [dH 0,zC 1,kK 2,kL 3,aiT 4] [] [] [] 200 Tryz.f191 [.one (.int .i8),.agg kSc,.agg kSc] [.agg kRg] false [.int .i8,.int .u64,.int .u64,.int .i64,.int .i64,.int .u64,.int .u64,.int .u64,.int .u64,.int .i64,.int .i64,.int .u64,.int .u64] sT_vhalf:=⟨by kernel_rfl,by kernel_rfl,by kernel_rfl⟩
theorem ah3 (op:Int) (hop:inK .i8 op=true) (a:Sc) (ha:Sc.ok a) (b:Sc) (hb:Sc.ok b) (U:Env) (g:varsD U 0 [.int .i8,.int .u64,.int .u64,.int .i64,.int .i64,.int .u64,.int .u64,.int .u64,.int .u64,.int .i64,.int .i64,.int .u64,.int .u64]=[.z op,.z a.ul,.z a.uh,.z a.sl,.z a.sh,.z a.v,.z a.m,.z b.ul,.z b.uh,.z b.sl,.z b.sh,.z b.v,.z b.m]):sT_vhalf.asks zd (fun U e=>e.D U=jC [.z op,.z a.ul,.z a.uh,.z a.sl,.z a.sh,.z a.v,.z a.m,.z b.ul,.z b.uh,.z b.sl,.z b.sh,.z b.v,.z b.m]) U fun _ _=>False:=by
 simp only[varsD,varD,thm5,gS0,Nat.reduceAdd,and_true] at g
 simp only[sT_vhalf,alz,zd,kRg,kSc,bv,nR,eV,dn,xA,yV,kI,mJ,air,jC,qI,simQ,af,S1,Nat.reduceSub,Nat.reduceAdd,-eq_self,aq,g]
 intro e;(try simp only[e,aq,-eq_self]);clear e
 intro e;(try simp only[e,aq,-eq_self]);clear e
 constructor<;>intro c0
 ·(obtain rfl:=eqz c0;rw[show dj 8 a b=blow ball from by unfold dj;simp];try rfl)
 constructor<;>intro c1
 ·(obtain rfl:=eqz c1;rw[show dj 12 a b=blow ball from by unfold dj;simp];try rfl)
 constructor<;>intro c2
 intro e;(try simp only[e,aq,-eq_self]);clear e
 constructor<;>intro c3
 intro e;(try simp only[e,aq,-eq_self]);clear e
 intro e;(try simp only[e,aq,-eq_self]);clear e
 constructor<;>intro c4
 ·(obtain rfl:=eqz c2;have h4:=thm3 c4;rw[show dj 6 a b=bdo 6 a.r (vone (opI .and .u64 (kC b) 31)).r from(by unfold dj;rw[if_neg (by decide),if_pos (by decide),if_pos c3];exact if_pos h4)];try rfl)
 ·(obtain rfl:=eqz c2;have h4:=thm2 c4;rw[show dj 6 a b=blow ball from(by unfold dj;rw[if_neg (by decide),if_pos (by decide),if_pos c3];exact if_neg h4)];try rfl)
 ·(obtain rfl:=eqz c2;rw[show dj 6 a b=blow ball from by unfold dj;simp[c3]];try rfl)
 constructor<;>intro c5
 intro e;(try simp only[e,aq,-eq_self]);clear e
 constructor<;>intro c6
 intro e;(try simp only[e,aq,-eq_self]);clear e
 intro e;(try simp only[e,aq,-eq_self]);clear e
 constructor<;>intro c7
 ·(obtain rfl:=eqz c5;have h4:=thm3 c7;rw[show dj 7 a b=bdo 7 a.r (vone (opI .and .u64 (kC b) 31)).r from(by unfold dj;rw[if_neg (by decide),if_pos (by decide),if_pos c6];exact if_pos h4)];try rfl)
 ·(obtain rfl:=eqz c5;have h4:=thm2 c7;rw[show dj 7 a b=blow ball from(by unfold dj;rw[if_neg (by decide),if_pos (by decide),if_pos c6];exact if_neg h4)];try rfl)
 ·(obtain rfl:=eqz c5;rw[show dj 7 a b=blow ball from by unfold dj;simp[c6]];try rfl)
 intro e;(try simp only[e,aq,-eq_self]);clear e
 constructor<;>intro c8
 ·(have n0:=nez c0;have n1:=nez c1;have n2:=nez c2;have n3:=nez c5;have h4:=thm3 c8;rw[show dj op a b=bdo op a.r b.r from(by unfold dj;rw[if_neg (by omega),if_neg (by omega)];exact if_pos h4)];try rfl)
 ·(have n0:=nez c0;have n1:=nez c1;have n2:=nez c2;have n3:=nez c5;have h4:=thm2 c8;rw[show dj op a b=blow ball from(by unfold dj;rw[if_neg (by omega),if_neg (by omega)];exact if_neg h4)];try rfl)
theorem aiY {sp:Spec} {key:Nat} (hF:sp.F key=jC) (hP:sp.pre key=fun _=>True:=by rfl):SmOk Tryz.prog sp (rp key):=
 au (s:=rp key) hF hP kf bt (smc (eU rfl) (smc (akw rfl) (smc (aa9 rfl) (smc (rT rfl) (smc (aqi rfl) sm0))))) Tryz.func191 fn0 aix (.inl rfl) (fun x0 gx0 x1 gx1 x2 gx2 x3 gx3 x4 gx4 x5 gx5 x6 gx6 x7 gx7 x8 gx8 x9 gx9 x10 gx10 x11 gx11 x12 gx12 hp U g=>ah3 x0 gx0 ⟨x1,x2,x3,x4,x5,x6⟩ ⟨gx1,gx2,gx3,gx4,gx5,gx6⟩ ⟨x7,x8,x9,x10,x11,x12⟩ ⟨gx7,gx8,gx9,gx10,gx11,gx12⟩ U g)
def ru (key:Nat):Sm:=⟨145,key,[.one (.lit .i64 32)],[.agg kSc],false⟩
def jF:List Dt->List Dt
 | []=>[.z ((vbel 4294967295).ul),.z ((vbel 4294967295).uh),.z ((vbel 4294967295).sl),.z ((vbel 4294967295).sh),.z ((vbel 4294967295).v),.z ((vbel 4294967295).m)]
 | _=>[]
def sT_vbel4:Tr:=
(.call 0 (kRg) .nil 0
(.call 1 (kSc) (.cons (.var 0) (.cons (.lit 4294967295) (.vs 2 2 (.cons (.lit 0) (.cons (.lit 4294967295) .nil))))) 4
(.leaf (.vs 4 6 .nil))))
def zg:Spec:={F:=fun k=>match k with | 0=>bv | 1=>bH | _=>fun _=>[],pre:=fun _ _=>True}
theorem aiA:ap tys_VaB [dH 0,eb 1] [] [] [] 200 Tryz.f145 [.one (.lit .i64 32)] [.agg kSc] false [] sT_vbel4:=⟨by kernel_rfl,by kernel_rfl,by kernel_rfl⟩
theorem ah6 (U:Env) (g:varsD U 0 []=[]):sT_vbel4.asks zg (fun U e=>e.D U=jF []) U fun _ _=>False:=by
 simp only[sT_vbel4,zg,kRg,kSc,bv,bH,dZ,jF,simQ,af,S1,Nat.reduceSub,Nat.reduceAdd,-eq_self,aq]
 intro e;(try simp only[e,aq,-eq_self]);clear e
 intro e;(try simp only[e,aq,-eq_self]);clear e
 ·rfl
theorem ai1 {sp:Spec} {key:Nat} (hF:sp.F key=jF) (hP:sp.pre key=fun _=>True:=by rfl):SmOk Tryz.prog sp (ru key):=
 au (s:=ru key) hF hP kf bt (smc (eU rfl) (smc (gS rfl) sm0)) Tryz.func145 fn0 aiA (.inl rfl) (fun hp U g=>ah6 U g)
def xb (key:Nat):Sm:=⟨81,key,[.one (.lit .i64 4)],[.agg kSc],false⟩
def nK:List Dt->List Dt
 | []=>[.z ((vbel 4294967295).ul),.z ((vbel 4294967295).uh),.z ((vbel 4294967295).sl),.z ((vbel 4294967295).sh),.z ((vbel 4294967295).v),.z ((vbel 4294967295).m)]
 | _=>[]
def sT_vby4:Tr:=
(.call 0 (kSc) .nil 0
(.leaf (.vs 0 6 .nil)))
def aeu:Spec:={F:=fun k=>match k with | 0=>jF | _=>fun _=>[],pre:=fun _ _=>True}
theorem am2:ap tys_VaB [ru 0] [] [] [] 200 Tryz.f81 [.one (.lit .i64 4)] [.agg kSc] false [] sT_vby4:=⟨by kernel_rfl,by kernel_rfl,by kernel_rfl⟩
theorem amm (U:Env) (g:varsD U 0 []=[]):sT_vby4.asks aeu (fun U e=>e.D U=nK []) U fun _ _=>False:=by
 simp only[sT_vby4,aeu,kSc,jF,nK,simQ,af,S1,Nat.reduceSub,Nat.reduceAdd,-eq_self,aq]
 intro e;(try simp only[e,aq,-eq_self]);clear e
 ·rfl
theorem anH {sp:Spec} {key:Nat} (hF:sp.F key=nK) (hP:sp.pre key=fun _=>True:=by rfl):SmOk Tryz.prog sp (xb key):=
 au (s:=xb key) hF hP kf bt (smc (ai1 rfl) sm0) Tryz.func81 fn0 am2 (.inl rfl) (fun hp U g=>amm U g)
end Go.Proofs.YtfkhblmeioiciaaGreatDoor
