import Derived.Test.YtfkhblmeioiciaaGreatDoorVaA
import Derived.Test.YtfkhblmeioiciaaGreatDoorProg
import Derived.Laws.Externs
set_option maxRecDepth 100000
set_option maxHeartbeats 8000000
set_option linter.unusedVariables false
set_option linter.unusedSimpArgs false
namespace Go.Proofs.YtfkhblmeioiciaaGreatDoor
open Go.RowKit Go.ChangeShapes Go.WideShapes
def tys_VaB:List (Nat×TI):=[(2,⟨false,1,[.int .i64 (.lit 0)],[],none,some .i64,false,false,none,8,false,none,false,0⟩),
 (3,⟨false,1,[.int .i64 (.lit 0)],[],none,some .i64,false,false,none,8,false,none,false,0⟩),
 (37,⟨false,1,[.int .i8 (.lit 0)],[],none,some .i8,false,false,none,1,false,none,false,0⟩),
 (42,⟨false,1,[.int .u64 (.lit 0)],[],none,some .u64,false,false,none,8,false,none,false,0⟩),
 (44,⟨true,4,(zN 4 2211),[(0,42),(1,42),(2,2),(3,2)],none,none,false,false,none,32,false,none,false,0⟩),
 (46,⟨true,2,[.int .u64 (.lit 0),.int .u64 (.lit 0)],[(0,42),(1,42)],none,none,false,false,none,16,false,none,false,0⟩),
 (48,⟨true,6,(zN 6 112211),[(0,44),(4,46)],none,none,false,false,none,48,false,none,false,0⟩)]
theorem act:(tys_VaB.all fun p=>ckTI Tryz.prog p.1 p.2)=true:=by kernel_rfl
theorem sW:(tys_VaB.all fun p=>!p.2.eqok)=true:=by kernel_rfl
theorem ab8:(tys_VaB.all fun p=>!p.2.keyok)=true:=by kernel_rfl
theorem bt:∀t i,(t,i)∈tys_VaB->TIok Tryz.prog t i:=by
 intro t i h
 refine bC (cz (f:=ckTI Tryz.prog) act h) (fun he=> ?_) (fun he=> ?_) (fun he=> ?_)
 ·have h1:=thm7.1 sW (t,i) h
  simp[he] at h1
 ·have h1:=thm7.1 sW (t,i) h
  simp[he] at h1
 ·have h1:=thm7.1 ab8 (t,i) h
  simp[he] at h1
def wD (key:Nat):Sm:=⟨203,key,[.agg kRg],[.agg kKn],false⟩
def vZ (a:Rg):List Dt:=[.z ((kcom a).v),.z ((kcom a).m)]
def nu:List Dt->List Dt
 | [.z x0,.z x1,.z x2,.z x3]=>vZ ⟨x0,x1,x2,x3⟩
 | _=>[]
def sT_vcom:Tr:=
(.call 0 [.int .i64] (.cons (.bin .xor .u64 (.var 0) (.var 1)) .nil) 4
(.br (.lt (.lit 0) (.var 4))
(.br (.lt (.bin .sub .i64 (.lit 64) (.var 4)) (.lit 0))
.panic
(.leaf (.cons (.bin .andNot .u64 (.var 0) (.bin .sub .u64 (.bin .shl .u64 (.lit 1) (.bin .sub .i64 (.lit 64) (.var 4))) (.lit 1))) (.cons (.bin .sub .u64 (.bin .shl .u64 (.lit 1) (.bin .sub .i64 (.lit 64) (.var 4))) (.lit 1)) .nil))))
(.leaf (.cons (.bin .andNot .u64 (.var 0) (.lit 18446744073709551615)) (.cons (.lit 18446744073709551615) .nil)))))
def ad3:Spec:={F:=fun k=>match k with | 0=>uy | _=>fun _=>[],pre:=fun k=>match k with | _=>fun _=>True}
theorem alG:aq tys_VaB [aaQ 0] [] [] [] 200 Tryz.f203 [.agg kRg] [.agg kKn] false [.int .u64,.int .u64,.int .i64,.int .i64] sT_vcom:=⟨by kernel_rfl,by kernel_rfl,by kernel_rfl⟩
set_option linter.defProp false in
def ar:=And.intro Kn.eta (And.intro Pi.eta (And.intro Pu.eta (And.intro Rg.eta (And.intro Sc.eta (And.intro Sc.eta_r (And.intro Sc.eta_k (Sc.eta_2)))))))
theorem akY (a:Rg) (ha:Rg.ok a) (U:Env) (g:ab U 0 [.int .u64,.int .u64,.int .i64,.int .i64]=[.z a.ul,.z a.uh,.z a.sl,.z a.sh]):sT_vcom.asks ad3 (fun U e=>e.D U=nu [.z a.ul,.z a.uh,.z a.sl,.z a.sh]) U fun _ _=>False:=by
 simp only[ab,varD,thm5,Dt.z.injEq,Dt.l.injEq,b2i_eq_iff,Nat.reduceAdd,and_true] at g
 simp only[sT_vcom,ad3,uy,aaN,nu,vZ,Tr.asks,ah,okDs,okD,eqs,E.I,E.B,E.L,E.R,E.D,E.vs,E.gs,E.ins,E.sv,E.tn,E.iv,E.zs,E.zr,E.sg,E.tg,E.rg,E.rgs,E.pv,Nat.reduceSub,dI,dB,dL,varD,ab,S1,Nat.reduceAdd,-eq_self,ar,g]
 intro e; (try simp only[e,ar,-eq_self]); clear e
 constructor<;>intro c0
 constructor<;>intro c1
 ·(have hx:=abG a.ul a.uh; have hb:aC (bits .xor .u64 a.ul a.uh).toNat<=64:=eu (by omega); have h1:IntKind.i64.wrap (64-(64-(aC (bits .xor .u64 a.ul a.uh).toNat:Int)))<0:=thm3 c1; rw[aU] at h1; omega)
 ·exact aR (apl (Rg.wf_of ha))
 ·exact aR (apm (Rg.wf_of ha) c0)
theorem amj {sp:Spec} {key:Nat} (hF:sp.F key=nu) (hP:sp.pre key=fun _=>True:=by rfl):SmOk Tryz.prog sp (wD key):=
 av (s:=wD key) hF hP (by kernel_rfl) bt (smc (aoO rfl) sm0) Tryz.func203 fn0 alG (.inl rfl) (fun x0 gx0 x1 gx1 x2 gx2 x3 gx3 hp U g=>akY ⟨x0,x1,x2,x3⟩ ⟨gx0,gx1,gx2,gx3⟩ U g)
def mR (key:Nat):Sm:=⟨151,key,[.agg kSc],[.agg kSc,.one .bool],true⟩
def my (a:Sc):List Dt:=[.z ((vnar a).ul),.z ((vnar a).uh),.z ((vnar a).sl),.z ((vnar a).sh),.z ((vnar a).v),.z ((vnar a).m),.z (b2i (vnok a))]
def fc:List Dt->List Dt
 | [.z x0,.z x1,.z x2,.z x3,.z x4,.z x5]=>my ⟨x0,x1,x2,x3,x4,x5⟩
 | _=>[]
def sT_vnar:Tr:=
(.call 0 [.bool] (.vs 0 6 .nil) 6
(.br (.bvar 6)
(.call 2 (kRg) .nil 7
(.call 3 (kRg++[.bool]) (.vs 0 5 (.cons (.bin .or .u64 (.var 4) (.var 5)) (.vs 9 2 .nil))) 11
(.br (.bvar 15)
(.call 5 (kKn) (.vs 11 4 .nil) 16
(.call 4 (kKn++[.bool]) (.vs 4 2 (.vs 16 2 .nil)) 18
(.br (.bvar 20)
(.call 3 (kRg++[.bool]) (.vs 11 4 (.cons (.var 18) (.cons (.bin .or .u64 (.var 18) (.var 19)) (.vs 9 2 .nil)))) 21
(.br (.bvar 25)
(.call 5 (kKn) (.vs 21 4 .nil) 26
(.call 4 (kKn++[.bool]) (.vs 18 2 (.vs 26 2 .nil)) 28
(.br (.bvar 30)
(.leaf (.vs 21 4 (.vs 28 2 (.consb (.tt true) .nil))))
(.call 1 (kSc) .nil 31
(.leaf (.vs 31 6 (.consb (.tt false) .nil)))))))
(.call 1 (kSc) .nil 26
(.leaf (.vs 26 6 (.consb (.tt false) .nil))))))
(.call 1 (kSc) .nil 21
(.leaf (.vs 21 6 (.consb (.tt false) .nil)))))))
(.call 1 (kSc) .nil 16
(.leaf (.vs 16 6 (.consb (.tt false) .nil)))))))
(.call 1 (kSc) .nil 7
(.leaf (.vs 7 6 (.consb (.tt false) .nil))))))
def adZ:Spec:={F:=fun k=>match k with | 0=>bW | 1=>ct | 2=>bv | 3=>iE | 4=>fg | 5=>nu | _=>fun _=>[],pre:=fun k=>match k with | _=>fun _=>True}
theorem alC:aq tys_VaB [eY 0,fM 1,dD 2,rp 3,lP 4,wD 5] [] [] [] 200 Tryz.f151 [.agg kSc] [.agg kSc,.one .bool] true [.int .u64,.int .u64,.int .i64,.int .i64,.int .u64,.int .u64] sT_vnar:=⟨by kernel_rfl,by kernel_rfl,by kernel_rfl⟩
theorem akU (a:Sc) (ha:Sc.ok a) (U:Env) (g:ab U 0 [.int .u64,.int .u64,.int .i64,.int .i64,.int .u64,.int .u64]=[.z a.ul,.z a.uh,.z a.sl,.z a.sh,.z a.v,.z a.m]):sT_vnar.asks adZ (fun U e=>e.D U=fc [.z a.ul,.z a.uh,.z a.sl,.z a.sh,.z a.v,.z a.m]) U fun _ _=>False:=by
 simp only[ab,varD,thm5,Dt.z.injEq,Dt.l.injEq,b2i_eq_iff,Nat.reduceAdd,and_true] at g
 simp only[sT_vnar,adZ,kKn,kRg,kSc,bW,ct,bv,iE,fg,nu,eX,qF,lL,vZ,fc,my,Tr.asks,ah,okDs,okD,eqs,E.I,E.B,E.L,E.R,E.D,E.vs,E.gs,E.ins,E.sv,E.tn,E.iv,E.zs,E.zr,E.sg,E.tg,E.rg,E.rgs,E.pv,Nat.reduceSub,dI,dB,dL,varD,ab,S1,Nat.reduceAdd,-eq_self,ar,g]
 intro e; (try simp only[e,ar,-eq_self]); clear e
 constructor<;>intro c0
 intro e; (try simp only[e,ar,-eq_self]); clear e
 intro e; (try simp only[e,ar,-eq_self]); clear e
 constructor<;>intro c1
 intro e; (try simp only[e,ar,-eq_self]); clear e
 intro e; (try simp only[e,ar,-eq_self]); clear e
 constructor<;>intro c2
 intro e; (try simp only[e,ar,-eq_self]); clear e
 constructor<;>intro c3
 intro e; (try simp only[e,ar,-eq_self]); clear e
 intro e; (try simp only[e,ar,-eq_self]); clear e
 constructor<;>intro c4
 ·(have q:=vn_t (a:=a) c0 c1 c2 c3 c4; rw[q.1,q.2]; try rfl)
 intro e; (try simp only[e,ar,-eq_self]); clear e
 ·(have q:=vn_f (a:=a) (.inr (.inr (.inr (.inr (c4))))); rw[q.1,q.2]; try rfl)
 intro e; (try simp only[e,ar,-eq_self]); clear e
 ·(have q:=vn_f (a:=a) (.inr (.inr (.inr (.inl c3)))); rw[q.1,q.2]; try rfl)
 intro e; (try simp only[e,ar,-eq_self]); clear e
 ·(have q:=vn_f (a:=a) (.inr (.inr (.inl c2))); rw[q.1,q.2]; try rfl)
 intro e; (try simp only[e,ar,-eq_self]); clear e
 ·(have q:=vn_f (a:=a) (.inr (.inl c1)); rw[q.1,q.2]; try rfl)
 intro e; (try simp only[e,ar,-eq_self]); clear e
 ·(have q:=vn_f (a:=a) (.inl c0); rw[q.1,q.2]; try rfl)
theorem wW {sp:Spec} {key:Nat} (hF:sp.F key=fc) (hP:sp.pre key=fun _=>True:=by rfl):SmOk Tryz.prog sp (mR key):=
 av (s:=mR key) hF hP (by kernel_rfl) bt (smc (ix rfl) (smc (ku rfl) (smc (eD rfl) (smc (ae0 rfl) (smc (zh rfl) (smc (amj rfl) sm0)))))) Tryz.func151 fn0 alC (.inl rfl) (fun x0 gx0 x1 gx1 x2 gx2 x3 gx3 x4 gx4 x5 gx5 hp U g=>akU ⟨x0,x1,x2,x3,x4,x5⟩ ⟨gx0,gx1,gx2,gx3,gx4,gx5⟩ U g)
def dV (key:Nat):Sm:=⟨187,key,[.agg kSc],[.agg kSc],false⟩
def dT (a:Sc):List Dt:=[.z ((vnar a).ul),.z ((vnar a).uh),.z ((vnar a).sl),.z ((vnar a).sh),.z ((vnar a).v),.z ((vnar a).m)]
def bF:List Dt->List Dt
 | [.z x0,.z x1,.z x2,.z x3,.z x4,.z x5]=>dT ⟨x0,x1,x2,x3,x4,x5⟩
 | _=>[]
def sT_vnard:Tr:=
(.call 0 (kSc++[.bool]) (.vs 0 6 .nil) 6
(.leaf (.vs 6 6 .nil)))
def yE:Spec:={F:=fun k=>match k with | 0=>fc | _=>fun _=>[],pre:=fun k=>match k with | _=>fun _=>True}
theorem ahT:aq tys_VaB [mR 0] [] [] [] 200 Tryz.f187 [.agg kSc] [.agg kSc] false [.int .u64,.int .u64,.int .i64,.int .i64,.int .u64,.int .u64] sT_vnard:=⟨by kernel_rfl,by kernel_rfl,by kernel_rfl⟩
theorem ahp (a:Sc) (ha:Sc.ok a) (U:Env) (g:ab U 0 [.int .u64,.int .u64,.int .i64,.int .i64,.int .u64,.int .u64]=[.z a.ul,.z a.uh,.z a.sl,.z a.sh,.z a.v,.z a.m]):sT_vnard.asks yE (fun U e=>e.D U=bF [.z a.ul,.z a.uh,.z a.sl,.z a.sh,.z a.v,.z a.m]) U fun _ _=>False:=by
 simp only[ab,varD,thm5,Dt.z.injEq,Dt.l.injEq,b2i_eq_iff,Nat.reduceAdd,and_true] at g
 simp only[sT_vnard,yE,kSc,fc,my,bF,dT,Tr.asks,ah,okDs,okD,eqs,E.I,E.B,E.L,E.R,E.D,E.vs,E.gs,E.ins,E.sv,E.tn,E.iv,E.zs,E.zr,E.sg,E.tg,E.rg,E.rgs,E.pv,Nat.reduceSub,dI,dB,dL,varD,ab,S1,Nat.reduceAdd,-eq_self,ar,g]
 intro e; (try simp only[e,ar,-eq_self]); clear e
 ·rfl
theorem gD {sp:Spec} {key:Nat} (hF:sp.F key=bF) (hP:sp.pre key=fun _=>True:=by rfl):SmOk Tryz.prog sp (dV key):=
 av (s:=dV key) hF hP (by kernel_rfl) bt (smc (wW rfl) sm0) Tryz.func187 fn0 ahT (.inl rfl) (fun x0 gx0 x1 gx1 x2 gx2 x3 gx3 x4 gx4 x5 gx5 hp U g=>ahp ⟨x0,x1,x2,x3,x4,x5⟩ ⟨gx0,gx1,gx2,gx3,gx4,gx5⟩ U g)
def qP (key:Nat):Sm:=⟨152,key,[.agg kSc,.agg kSc,.one (.fn 153),.one (.fn 154)],[.agg kSc],false⟩
def qp (a:Sc) (b:Sc):List Dt:=[.z ((fH a b).ul),.z ((fH a b).uh),.z ((fH a b).sl),.z ((fH a b).sh),.z ((fH a b).v),.z ((fH a b).m)]
def jm:List Dt->List Dt
 | [.z x0,.z x1,.z x2,.z x3,.z x4,.z x5,.z x6,.z x7,.z x8,.z x9,.z x10,.z x11]=>qp ⟨x0,x1,x2,x3,x4,x5⟩ ⟨x6,x7,x8,x9,x10,x11⟩
 | _=>[]
def sT_vtwoj:Tr:=
(.call 0 [.bool] (.vs 0 6 .nil) 12
(.br (.bvar 12)
(.call 0 [.bool] (.vs 6 6 .nil) 13
(.br (.bvar 13)
(.call 3 (kRg) (.vs 0 4 (.vs 6 4 .nil)) 14
(.call 4 (kKn) (.vs 4 2 (.vs 10 2 .nil)) 18
(.call 2 (kSc) (.vs 14 6 .nil) 20
(.leaf (.vs 20 6 .nil)))))
(.call 1 (kSc) .nil 14
(.leaf (.vs 14 6 .nil)))))
(.call 1 (kSc) .nil 13
(.leaf (.vs 13 6 .nil)))))
def yD:Spec:={F:=fun k=>match k with | 0=>bW | 1=>ct | 2=>bF | 3=>nK | 4=>fh | _=>fun _=>[],pre:=fun k=>match k with | _=>fun _=>True}
theorem ahS:aq tys_VaB [eY 0,fM 1,dV 2,wS 3,lQ 4] [] [] [] 200 Tryz.f152 [.agg kSc,.agg kSc,.one (.fn 153),.one (.fn 154)] [.agg kSc] false [.int .u64,.int .u64,.int .i64,.int .i64,.int .u64,.int .u64,.int .u64,.int .u64,.int .i64,.int .i64,.int .u64,.int .u64] sT_vtwoj:=⟨by kernel_rfl,by kernel_rfl,by kernel_rfl⟩
theorem aho (a:Sc) (ha:Sc.ok a) (b:Sc) (hb:Sc.ok b) (U:Env) (g:ab U 0 [.int .u64,.int .u64,.int .i64,.int .i64,.int .u64,.int .u64,.int .u64,.int .u64,.int .i64,.int .i64,.int .u64,.int .u64]=[.z a.ul,.z a.uh,.z a.sl,.z a.sh,.z a.v,.z a.m,.z b.ul,.z b.uh,.z b.sl,.z b.sh,.z b.v,.z b.m]):sT_vtwoj.asks yD (fun U e=>e.D U=jm [.z a.ul,.z a.uh,.z a.sl,.z a.sh,.z a.v,.z a.m,.z b.ul,.z b.uh,.z b.sl,.z b.sh,.z b.v,.z b.m]) U fun _ _=>False:=by
 simp only[ab,varD,thm5,Dt.z.injEq,Dt.l.injEq,b2i_eq_iff,Nat.reduceAdd,and_true] at g
 simp only[sT_vtwoj,yD,kKn,kRg,kSc,bW,ct,bF,nK,fh,eX,dT,wq,lM,jm,qp,Tr.asks,ah,okDs,okD,eqs,E.I,E.B,E.L,E.R,E.D,E.vs,E.gs,E.ins,E.sv,E.tn,E.iv,E.zs,E.zr,E.sg,E.tg,E.rg,E.rgs,E.pv,Nat.reduceSub,dI,dB,dL,varD,ab,S1,Nat.reduceAdd,-eq_self,ar,g]
 intro e; (try simp only[e,ar,-eq_self]); clear e
 constructor<;>intro c0
 intro e; (try simp only[e,ar,-eq_self]); clear e
 constructor<;>intro c1
 intro e; (try simp only[e,ar,-eq_self]); clear e
 intro e; (try simp only[e,ar,-eq_self]); clear e
 intro e; (try simp only[e,ar,-eq_self]); clear e
 ·(rw[show fH a b=vnar (sc (oR a.r b.r) (rX a.k b.k)) from if_pos ⟨c0,c1⟩]; try rfl)
 intro e; (try simp only[e,ar,-eq_self]); clear e
 ·(rw[show fH a b=vall from if_neg (fun q=>by simp_all)]; try rfl)
 intro e; (try simp only[e,ar,-eq_self]); clear e
 ·(rw[show fH a b=vall from if_neg (fun q=>by simp_all)]; try rfl)
theorem aik {sp:Spec} {key:Nat} (hF:sp.F key=jm) (hP:sp.pre key=fun _=>True:=by rfl):SmOk Tryz.prog sp (qP key):=
 av (s:=qP key) hF hP (by kernel_rfl) bt (smc (ix rfl) (smc (ku rfl) (smc (gD rfl) (smc (amx rfl) (smc (zi rfl) sm0))))) Tryz.func152 fn0 ahS (.inl rfl) (fun x0 gx0 x1 gx1 x2 gx2 x3 gx3 x4 gx4 x5 gx5 x6 gx6 x7 gx7 x8 gx8 x9 gx9 x10 gx10 x11 gx11 hp U g=>aho ⟨x0,x1,x2,x3,x4,x5⟩ ⟨gx0,gx1,gx2,gx3,gx4,gx5⟩ ⟨x6,x7,x8,x9,x10,x11⟩ ⟨gx6,gx7,gx8,gx9,gx10,gx11⟩ U g)
def qR (key:Nat):Sm:=⟨91,key,[.agg kSc,.agg kSc],[.agg kSc],false⟩
def qq (a:Sc) (b:Sc):List Dt:=[.z ((fH a b).ul),.z ((fH a b).uh),.z ((fH a b).sl),.z ((fH a b).sh),.z ((fH a b).v),.z ((fH a b).m)]
def jn:List Dt->List Dt
 | [.z x0,.z x1,.z x2,.z x3,.z x4,.z x5,.z x6,.z x7,.z x8,.z x9,.z x10,.z x11]=>qq ⟨x0,x1,x2,x3,x4,x5⟩ ⟨x6,x7,x8,x9,x10,x11⟩
 | _=>[]
def sT_vjoin:Tr:=
(.call 0 (kSc) (.vs 0 12 .nil) 12
(.leaf (.vs 12 6 .nil)))
def yF:Spec:={F:=fun k=>match k with | 0=>jm | _=>fun _=>[],pre:=fun k=>match k with | _=>fun _=>True}
theorem ahU:aq tys_VaB [qP 0] [] [] [] 200 Tryz.f91 [.agg kSc,.agg kSc] [.agg kSc] false [.int .u64,.int .u64,.int .i64,.int .i64,.int .u64,.int .u64,.int .u64,.int .u64,.int .i64,.int .i64,.int .u64,.int .u64] sT_vjoin:=⟨by kernel_rfl,by kernel_rfl,by kernel_rfl⟩
theorem ahq (a:Sc) (ha:Sc.ok a) (b:Sc) (hb:Sc.ok b) (U:Env) (g:ab U 0 [.int .u64,.int .u64,.int .i64,.int .i64,.int .u64,.int .u64,.int .u64,.int .u64,.int .i64,.int .i64,.int .u64,.int .u64]=[.z a.ul,.z a.uh,.z a.sl,.z a.sh,.z a.v,.z a.m,.z b.ul,.z b.uh,.z b.sl,.z b.sh,.z b.v,.z b.m]):sT_vjoin.asks yF (fun U e=>e.D U=jn [.z a.ul,.z a.uh,.z a.sl,.z a.sh,.z a.v,.z a.m,.z b.ul,.z b.uh,.z b.sl,.z b.sh,.z b.v,.z b.m]) U fun _ _=>False:=by
 simp only[ab,varD,thm5,Dt.z.injEq,Dt.l.injEq,b2i_eq_iff,Nat.reduceAdd,and_true] at g
 simp only[sT_vjoin,yF,kSc,jm,qp,jn,qq,Tr.asks,ah,okDs,okD,eqs,E.I,E.B,E.L,E.R,E.D,E.vs,E.gs,E.ins,E.sv,E.tn,E.iv,E.zs,E.zr,E.sg,E.tg,E.rg,E.rgs,E.pv,Nat.reduceSub,dI,dB,dL,varD,ab,S1,Nat.reduceAdd,-eq_self,ar,g]
 intro e; (try simp only[e,ar,-eq_self]); clear e
 ·rfl
theorem ail {sp:Spec} {key:Nat} (hF:sp.F key=jn) (hP:sp.pre key=fun _=>True:=by rfl):SmOk Tryz.prog sp (qR key):=
 av (s:=qR key) hF hP (by kernel_rfl) bt (smc (aik rfl) sm0) Tryz.func91 fn0 ahU (.inl rfl) (fun x0 gx0 x1 gx1 x2 gx2 x3 gx3 x4 gx4 x5 gx5 x6 gx6 x7 gx7 x8 gx8 x9 gx9 x10 gx10 x11 gx11 hp U g=>ahq ⟨x0,x1,x2,x3,x4,x5⟩ ⟨gx0,gx1,gx2,gx3,gx4,gx5⟩ ⟨x6,x7,x8,x9,x10,x11⟩ ⟨gx6,gx7,gx8,gx9,gx10,gx11⟩ U g)
def qT (key:Nat):Sm:=⟨157,key,[.one (.int .u64),.one (.int .u64),.one (.int .u64),.one .bool],[.one (.int .u64)],false⟩
def qs (a:Int) (b:Int) (c:Int) (t:Bool):List Dt:=[.z (if(a==b)=false/\t=true then c else a)]
def jp:List Dt->List Dt
 | [.z x0,.z x1,.z x2,.z x3]=>qs x0 x1 x2 (x3==1)
 | _=>[]
def sT_vendu:Tr:=
(.br (.eq (.var 0) (.var 1))
(.leaf (.cons (.var 0) .nil))
(.br (.bvar 3)
(.leaf (.cons (.var 2) .nil))
(.leaf (.cons (.var 0) .nil))))
def yH:Spec:={F:=fun k=>match k with | _=>fun _=>[],pre:=fun k=>match k with | _=>fun _=>True}
theorem ahW:aq tys_VaB [] [] [] [] 200 Tryz.f157 [.one (.int .u64),.one (.int .u64),.one (.int .u64),.one .bool] [.one (.int .u64)] false [.int .u64,.int .u64,.int .u64,.bool] sT_vendu:=⟨by kernel_rfl,by kernel_rfl,by kernel_rfl⟩
theorem ahs (a:Int) (ha:inK .u64 a=true) (b:Int) (hb:inK .u64 b=true) (c:Int) (hc:inK .u64 c=true) (t:Bool) (U:Env) (g:ab U 0 [.int .u64,.int .u64,.int .u64,.bool]=[.z a,.z b,.z c,.z (b2i t)]):sT_vendu.asks yH (fun U e=>e.D U=jp [.z a,.z b,.z c,.z (b2i t)]) U fun _ _=>False:=by
 simp only[ab,varD,thm5,Dt.z.injEq,Dt.l.injEq,b2i_eq_iff,Nat.reduceAdd,and_true] at g
 simp only[sT_vendu,yH,jp,qs,Tr.asks,ah,okDs,okD,eqs,E.I,E.B,E.L,E.R,E.D,E.vs,E.gs,E.ins,E.sv,E.tn,E.iv,E.zs,E.zr,E.sg,E.tg,E.rg,E.rgs,E.pv,Nat.reduceSub,dI,dB,dL,varD,ab,S1,Nat.reduceAdd,-eq_self,Sc.eta_r,Sc.eta_k,Sc.eta_2,g]
 constructor<;>intro c0
 ·(simp_all)
 constructor<;>intro c1
 ·(simp_all)
 ·(simp_all)
theorem ain {sp:Spec} {key:Nat} (hF:sp.F key=jp) (hP:sp.pre key=fun _=>True:=by rfl):SmOk Tryz.prog sp (qT key):=
 av (s:=qT key) hF hP (by kernel_rfl) bt (sm0) Tryz.func157 fn0 ahW (.inl rfl) (fun x0 gx0 x1 gx1 x2 gx2 x3 hp U g=>ahs x0 gx0 x1 gx1 x2 gx2 x3 U g)
def qU (key:Nat):Sm:=⟨158,key,[.one (.int .i64),.one (.int .i64),.one (.int .i64),.one .bool],[.one (.int .i64)],false⟩
def qt (a:Int) (b:Int) (c:Int) (t:Bool):List Dt:=[.z (if(a==b)=false/\t=true then c else a)]
def jq:List Dt->List Dt
 | [.z x0,.z x1,.z x2,.z x3]=>qt x0 x1 x2 (x3==1)
 | _=>[]
def sT_vendi:Tr:=
(.br (.eq (.var 0) (.var 1))
(.leaf (.cons (.var 0) .nil))
(.br (.bvar 3)
(.leaf (.cons (.var 2) .nil))
(.leaf (.cons (.var 0) .nil))))
def yI:Spec:={F:=fun k=>match k with | _=>fun _=>[],pre:=fun k=>match k with | _=>fun _=>True}
theorem ahX:aq tys_VaB [] [] [] [] 200 Tryz.f158 [.one (.int .i64),.one (.int .i64),.one (.int .i64),.one .bool] [.one (.int .i64)] false [.int .i64,.int .i64,.int .i64,.bool] sT_vendi:=⟨by kernel_rfl,by kernel_rfl,by kernel_rfl⟩
theorem aht (a:Int) (ha:inK .i64 a=true) (b:Int) (hb:inK .i64 b=true) (c:Int) (hc:inK .i64 c=true) (t:Bool) (U:Env) (g:ab U 0 [.int .i64,.int .i64,.int .i64,.bool]=[.z a,.z b,.z c,.z (b2i t)]):sT_vendi.asks yI (fun U e=>e.D U=jq [.z a,.z b,.z c,.z (b2i t)]) U fun _ _=>False:=by
 simp only[ab,varD,thm5,Dt.z.injEq,Dt.l.injEq,b2i_eq_iff,Nat.reduceAdd,and_true] at g
 simp only[sT_vendi,yI,jq,qt,Tr.asks,ah,okDs,okD,eqs,E.I,E.B,E.L,E.R,E.D,E.vs,E.gs,E.ins,E.sv,E.tn,E.iv,E.zs,E.zr,E.sg,E.tg,E.rg,E.rgs,E.pv,Nat.reduceSub,dI,dB,dL,varD,ab,S1,Nat.reduceAdd,-eq_self,Sc.eta_r,Sc.eta_k,Sc.eta_2,g]
 constructor<;>intro c0
 ·(simp_all)
 constructor<;>intro c1
 ·(simp_all)
 ·(simp_all)
theorem aio {sp:Spec} {key:Nat} (hF:sp.F key=jq) (hP:sp.pre key=fun _=>True:=by rfl):SmOk Tryz.prog sp (qU key):=
 av (s:=qU key) hF hP (by kernel_rfl) bt (sm0) Tryz.func158 fn0 ahX (.inl rfl) (fun x0 gx0 x1 gx1 x2 gx2 x3 hp U g=>aht x0 gx0 x1 gx1 x2 gx2 x3 U g)
def qN (key:Nat):Sm:=⟨155,key,[.agg kRg,.agg kRg],[.agg kRg],false⟩
def qn (a:Rg) (b:Rg):List Dt:=[.z ((bwid a b).ul),.z ((bwid a b).uh),.z ((bwid a b).sl),.z ((bwid a b).sh)]
def jk:List Dt->List Dt
 | [.z x0,.z x1,.z x2,.z x3,.z x4,.z x5,.z x6,.z x7]=>qn ⟨x0,x1,x2,x3⟩ ⟨x4,x5,x6,x7⟩
 | _=>[]
def sT_vwid0:Tr:=
(.call 0 (kRg) .nil 8
(.call 1 [.int .u64] (.cons (.var 0) (.cons (.var 4) (.cons (.var 8) (.consb (.lt (.var 4) (.var 0)) .nil)))) 12
(.call 1 [.int .u64] (.cons (.var 1) (.cons (.var 5) (.cons (.var 9) (.consb (.lt (.var 1) (.var 5)) .nil)))) 13
(.call 2 [.int .i64] (.cons (.var 2) (.cons (.var 6) (.cons (.var 10) (.consb (.lt (.var 6) (.var 2)) .nil)))) 14
(.call 2 [.int .i64] (.cons (.var 3) (.cons (.var 7) (.cons (.var 11) (.consb (.lt (.var 3) (.var 7)) .nil)))) 15
(.leaf (.vs 12 4 .nil)))))))
def yA:Spec:={F:=fun k=>match k with | 0=>bv | 1=>jp | 2=>jq | _=>fun _=>[],pre:=fun k=>match k with | _=>fun _=>True}
theorem ahQ:aq tys_VaB [dD 0,qT 1,qU 2] [] [] [] 200 Tryz.f155 [.agg kRg,.agg kRg] [.agg kRg] false [.int .u64,.int .u64,.int .i64,.int .i64,.int .u64,.int .u64,.int .i64,.int .i64] sT_vwid0:=⟨by kernel_rfl,by kernel_rfl,by kernel_rfl⟩
theorem ahm (a:Rg) (ha:Rg.ok a) (b:Rg) (hb:Rg.ok b) (U:Env) (g:ab U 0 [.int .u64,.int .u64,.int .i64,.int .i64,.int .u64,.int .u64,.int .i64,.int .i64]=[.z a.ul,.z a.uh,.z a.sl,.z a.sh,.z b.ul,.z b.uh,.z b.sl,.z b.sh]):sT_vwid0.asks yA (fun U e=>e.D U=jk [.z a.ul,.z a.uh,.z a.sl,.z a.sh,.z b.ul,.z b.uh,.z b.sl,.z b.sh]) U fun _ _=>False:=by
 simp only[ab,varD,thm5,Dt.z.injEq,Dt.l.injEq,b2i_eq_iff,Nat.reduceAdd,and_true] at g
 simp only[sT_vwid0,yA,kRg,bv,jp,jq,qs,qt,jk,qn,Tr.asks,ah,okDs,okD,eqs,E.I,E.B,E.L,E.R,E.D,E.vs,E.gs,E.ins,E.sv,E.tn,E.iv,E.zs,E.zr,E.sg,E.tg,E.rg,E.rgs,E.pv,Nat.reduceSub,dI,dB,dL,varD,ab,S1,Nat.reduceAdd,-eq_self,ar,g]
 intro e; (try simp only[e,ar,-eq_self]); clear e
 intro e; (try simp only[e,ar,-eq_self]); clear e
 intro e; (try simp only[e,ar,-eq_self]); clear e
 intro e; (try simp only[e,ar,-eq_self]); clear e
 intro e; (try simp only[e,ar,-eq_self]); clear e
 ·rfl
theorem aii {sp:Spec} {key:Nat} (hF:sp.F key=jk) (hP:sp.pre key=fun _=>True:=by rfl):SmOk Tryz.prog sp (qN key):=
 av (s:=qN key) hF hP (by kernel_rfl) bt (smc (eD rfl) (smc (ain rfl) (smc (aio rfl) sm0))) Tryz.func155 fn0 ahQ (.inl rfl) (fun x0 gx0 x1 gx1 x2 gx2 x3 gx3 x4 gx4 x5 gx5 x6 gx6 x7 gx7 hp U g=>ahm ⟨x0,x1,x2,x3⟩ ⟨gx0,gx1,gx2,gx3⟩ ⟨x4,x5,x6,x7⟩ ⟨gx4,gx5,gx6,gx7⟩ U g)
def qO (key:Nat):Sm:=⟨152,key,[.agg kSc,.agg kSc,.one (.fn 155),.one (.fn 154)],[.agg kSc],false⟩
def qo (a:Sc) (b:Sc):List Dt:=[.z ((vwid a b).ul),.z ((vwid a b).uh),.z ((vwid a b).sl),.z ((vwid a b).sh),.z ((vwid a b).v),.z ((vwid a b).m)]
def jl:List Dt->List Dt
 | [.z x0,.z x1,.z x2,.z x3,.z x4,.z x5,.z x6,.z x7,.z x8,.z x9,.z x10,.z x11]=>qo ⟨x0,x1,x2,x3,x4,x5⟩ ⟨x6,x7,x8,x9,x10,x11⟩
 | _=>[]
def sT_vtwow:Tr:=
(.call 0 [.bool] (.vs 0 6 .nil) 12
(.br (.bvar 12)
(.call 0 [.bool] (.vs 6 6 .nil) 13
(.br (.bvar 13)
(.call 3 (kRg) (.vs 0 4 (.vs 6 4 .nil)) 14
(.call 4 (kKn) (.vs 4 2 (.vs 10 2 .nil)) 18
(.call 2 (kSc) (.vs 14 6 .nil) 20
(.leaf (.vs 20 6 .nil)))))
(.call 1 (kSc) .nil 14
(.leaf (.vs 14 6 .nil)))))
(.call 1 (kSc) .nil 13
(.leaf (.vs 13 6 .nil)))))
def yC:Spec:={F:=fun k=>match k with | 0=>bW | 1=>ct | 2=>bF | 3=>jk | 4=>fh | _=>fun _=>[],pre:=fun k=>match k with | _=>fun _=>True}
theorem ahR:aq tys_VaB [eY 0,fM 1,dV 2,qN 3,lQ 4] [] [] [] 200 Tryz.f152 [.agg kSc,.agg kSc,.one (.fn 155),.one (.fn 154)] [.agg kSc] false [.int .u64,.int .u64,.int .i64,.int .i64,.int .u64,.int .u64,.int .u64,.int .u64,.int .i64,.int .i64,.int .u64,.int .u64] sT_vtwow:=⟨by kernel_rfl,by kernel_rfl,by kernel_rfl⟩
theorem ahn (a:Sc) (ha:Sc.ok a) (b:Sc) (hb:Sc.ok b) (U:Env) (g:ab U 0 [.int .u64,.int .u64,.int .i64,.int .i64,.int .u64,.int .u64,.int .u64,.int .u64,.int .i64,.int .i64,.int .u64,.int .u64]=[.z a.ul,.z a.uh,.z a.sl,.z a.sh,.z a.v,.z a.m,.z b.ul,.z b.uh,.z b.sl,.z b.sh,.z b.v,.z b.m]):sT_vtwow.asks yC (fun U e=>e.D U=jl [.z a.ul,.z a.uh,.z a.sl,.z a.sh,.z a.v,.z a.m,.z b.ul,.z b.uh,.z b.sl,.z b.sh,.z b.v,.z b.m]) U fun _ _=>False:=by
 simp only[ab,varD,thm5,Dt.z.injEq,Dt.l.injEq,b2i_eq_iff,Nat.reduceAdd,and_true] at g
 simp only[sT_vtwow,yC,kKn,kRg,kSc,bW,ct,bF,jk,fh,eX,dT,qn,lM,jl,qo,Tr.asks,ah,okDs,okD,eqs,E.I,E.B,E.L,E.R,E.D,E.vs,E.gs,E.ins,E.sv,E.tn,E.iv,E.zs,E.zr,E.sg,E.tg,E.rg,E.rgs,E.pv,Nat.reduceSub,dI,dB,dL,varD,ab,S1,Nat.reduceAdd,-eq_self,ar,g]
 intro e; (try simp only[e,ar,-eq_self]); clear e
 constructor<;>intro c0
 intro e; (try simp only[e,ar,-eq_self]); clear e
 constructor<;>intro c1
 intro e; (try simp only[e,ar,-eq_self]); clear e
 intro e; (try simp only[e,ar,-eq_self]); clear e
 intro e; (try simp only[e,ar,-eq_self]); clear e
 ·(rw[show vwid a b=vnar (sc (bwid a.r b.r) (rX a.k b.k)) from if_pos ⟨c0,c1⟩]; try rfl)
 intro e; (try simp only[e,ar,-eq_self]); clear e
 ·(rw[show vwid a b=vall from if_neg (fun q=>by simp_all)]; try rfl)
 intro e; (try simp only[e,ar,-eq_self]); clear e
 ·(rw[show vwid a b=vall from if_neg (fun q=>by simp_all)]; try rfl)
theorem aij {sp:Spec} {key:Nat} (hF:sp.F key=jl) (hP:sp.pre key=fun _=>True:=by rfl):SmOk Tryz.prog sp (qO key):=
 av (s:=qO key) hF hP (by kernel_rfl) bt (smc (ix rfl) (smc (ku rfl) (smc (gD rfl) (smc (aii rfl) (smc (zi rfl) sm0))))) Tryz.func152 fn0 ahR (.inl rfl) (fun x0 gx0 x1 gx1 x2 gx2 x3 gx3 x4 gx4 x5 gx5 x6 gx6 x7 gx7 x8 gx8 x9 gx9 x10 gx10 x11 gx11 hp U g=>ahn ⟨x0,x1,x2,x3,x4,x5⟩ ⟨gx0,gx1,gx2,gx3,gx4,gx5⟩ ⟨x6,x7,x8,x9,x10,x11⟩ ⟨gx6,gx7,gx8,gx9,gx10,gx11⟩ U g)
def ww (key:Nat):Sm:=⟨93,key,[.agg kSc,.agg kSc],[.agg kSc],false⟩
def vX (a:Sc) (b:Sc):List Dt:=[.z ((vwid a b).ul),.z ((vwid a b).uh),.z ((vwid a b).sl),.z ((vwid a b).sh),.z ((vwid a b).v),.z ((vwid a b).m)]
def nq:List Dt->List Dt
 | [.z x0,.z x1,.z x2,.z x3,.z x4,.z x5,.z x6,.z x7,.z x8,.z x9,.z x10,.z x11]=>vX ⟨x0,x1,x2,x3,x4,x5⟩ ⟨x6,x7,x8,x9,x10,x11⟩
 | _=>[]
def sT_vwid:Tr:=
(.call 0 (kSc) (.vs 0 12 .nil) 12
(.leaf (.vs 12 6 .nil)))
def adW:Spec:={F:=fun k=>match k with | 0=>jl | _=>fun _=>[],pre:=fun k=>match k with | _=>fun _=>True}
theorem alx:aq tys_VaB [qO 0] [] [] [] 200 Tryz.f93 [.agg kSc,.agg kSc] [.agg kSc] false [.int .u64,.int .u64,.int .i64,.int .i64,.int .u64,.int .u64,.int .u64,.int .u64,.int .i64,.int .i64,.int .u64,.int .u64] sT_vwid:=⟨by kernel_rfl,by kernel_rfl,by kernel_rfl⟩
theorem akP (a:Sc) (ha:Sc.ok a) (b:Sc) (hb:Sc.ok b) (U:Env) (g:ab U 0 [.int .u64,.int .u64,.int .i64,.int .i64,.int .u64,.int .u64,.int .u64,.int .u64,.int .i64,.int .i64,.int .u64,.int .u64]=[.z a.ul,.z a.uh,.z a.sl,.z a.sh,.z a.v,.z a.m,.z b.ul,.z b.uh,.z b.sl,.z b.sh,.z b.v,.z b.m]):sT_vwid.asks adW (fun U e=>e.D U=nq [.z a.ul,.z a.uh,.z a.sl,.z a.sh,.z a.v,.z a.m,.z b.ul,.z b.uh,.z b.sl,.z b.sh,.z b.v,.z b.m]) U fun _ _=>False:=by
 simp only[ab,varD,thm5,Dt.z.injEq,Dt.l.injEq,b2i_eq_iff,Nat.reduceAdd,and_true] at g
 simp only[sT_vwid,adW,kSc,jl,qo,nq,vX,Tr.asks,ah,okDs,okD,eqs,E.I,E.B,E.L,E.R,E.D,E.vs,E.gs,E.ins,E.sv,E.tn,E.iv,E.zs,E.zr,E.sg,E.tg,E.rg,E.rgs,E.pv,Nat.reduceSub,dI,dB,dL,varD,ab,S1,Nat.reduceAdd,-eq_self,ar,g]
 intro e; (try simp only[e,ar,-eq_self]); clear e
 ·rfl
theorem ame {sp:Spec} {key:Nat} (hF:sp.F key=nq) (hP:sp.pre key=fun _=>True:=by rfl):SmOk Tryz.prog sp (ww key):=
 av (s:=ww key) hF hP (by kernel_rfl) bt (smc (aij rfl) sm0) Tryz.func93 fn0 alx (.inl rfl) (fun x0 gx0 x1 gx1 x2 gx2 x3 gx3 x4 gx4 x5 gx5 x6 gx6 x7 gx7 x8 gx8 x9 gx9 x10 gx10 x11 gx11 hp U g=>akP ⟨x0,x1,x2,x3,x4,x5⟩ ⟨gx0,gx1,gx2,gx3,gx4,gx5⟩ ⟨x6,x7,x8,x9,x10,x11⟩ ⟨gx6,gx7,gx8,gx9,gx10,gx11⟩ U g)
def wA (key:Nat):Sm:=⟨190,key,[.agg kSc],[.agg kSc],false⟩
def vY (a:Sc):List Dt:=[.z ((vlow a).ul),.z ((vlow a).uh),.z ((vlow a).sl),.z ((vlow a).sh),.z ((vlow a).v),.z ((vlow a).m)]
def nt:List Dt->List Dt
 | [.z x0,.z x1,.z x2,.z x3,.z x4,.z x5]=>vY ⟨x0,x1,x2,x3,x4,x5⟩
 | _=>[]
def sT_vlow:Tr:=
(.call 0 (kRg) (.vs 0 4 .nil) 6
(.call 1 (kKn) (.vs 4 2 (.cons (.lit 32) .nil)) 10
(.call 2 (kSc) (.vs 6 6 .nil) 12
(.leaf (.vs 12 6 .nil)))))
def ad1:Spec:={F:=fun k=>match k with | 0=>nE | 1=>iG | 2=>bF | _=>fun _=>[],pre:=fun k=>match k with | _=>fun _=>True}
theorem alE:aq tys_VaB [ze 0,rt 1,dV 2] [] [] [] 200 Tryz.f190 [.agg kSc] [.agg kSc] false [.int .u64,.int .u64,.int .i64,.int .i64,.int .u64,.int .u64] sT_vlow:=⟨by kernel_rfl,by kernel_rfl,by kernel_rfl⟩
theorem akW (a:Sc) (ha:Sc.ok a) (U:Env) (g:ab U 0 [.int .u64,.int .u64,.int .i64,.int .i64,.int .u64,.int .u64]=[.z a.ul,.z a.uh,.z a.sl,.z a.sh,.z a.v,.z a.m]):sT_vlow.asks ad1 (fun U e=>e.D U=nt [.z a.ul,.z a.uh,.z a.sl,.z a.sh,.z a.v,.z a.m]) U fun _ _=>False:=by
 simp only[ab,varD,thm5,Dt.z.injEq,Dt.l.injEq,b2i_eq_iff,Nat.reduceAdd,and_true] at g
 simp only[sT_vlow,ad1,kKn,kRg,kSc,nE,iG,bF,yx,qH,dT,nt,vY,Tr.asks,ah,okDs,okD,eqs,E.I,E.B,E.L,E.R,E.D,E.vs,E.gs,E.ins,E.sv,E.tn,E.iv,E.zs,E.zr,E.sg,E.tg,E.rg,E.rgs,E.pv,Nat.reduceSub,dI,dB,dL,varD,ab,S1,Nat.reduceAdd,-eq_self,ar,g]
 intro e; (try simp only[e,ar,-eq_self]); clear e
 intro e; (try simp only[e,ar,-eq_self]); clear e
 intro e; (try simp only[e,ar,-eq_self]); clear e
 ·rfl
theorem amh {sp:Spec} {key:Nat} (hF:sp.F key=nt) (hP:sp.pre key=fun _=>True:=by rfl):SmOk Tryz.prog sp (wA key):=
 av (s:=wA key) hF hP (by kernel_rfl) bt (smc (ajS rfl) (smc (ae3 rfl) (smc (gD rfl) sm0))) Tryz.func190 fn0 alE (.inl rfl) (fun x0 gx0 x1 gx1 x2 gx2 x3 gx3 x4 gx4 x5 gx5 hp U g=>akW ⟨x0,x1,x2,x3,x4,x5⟩ ⟨gx0,gx1,gx2,gx3,gx4,gx5⟩ U g)
def qS (key:Nat):Sm:=⟨191,key,[.one (.int .i8),.agg kSc,.agg kSc],[.agg kRg],false⟩
def qr (op:Int) (a:Sc) (b:Sc):List Dt:=[.z ((de op a b).ul),.z ((de op a b).uh),.z ((de op a b).sl),.z ((de op a b).sh)]
def jo:List Dt->List Dt
 | [.z x0,.z x1,.z x2,.z x3,.z x4,.z x5,.z x6,.z x7,.z x8,.z x9,.z x10,.z x11,.z x12]=>qr x0 ⟨x1,x2,x3,x4,x5,x6⟩ ⟨x7,x8,x9,x10,x11,x12⟩
 | _=>[]
def sT_vhalf:Tr:=
(.call 0 (kRg) .nil 13
(.call 1 (kRg) (.vs 13 4 .nil) 17
(.br (.eq (.var 0) (.lit 8))
(.leaf (.vs 17 4 .nil))
(.br (.eq (.var 0) (.lit 12))
(.leaf (.vs 17 4 .nil))
(.br (.eq (.var 0) (.lit 6))
(.call 2 [.int .u64,.bool] (.vs 7 6 .nil) 21
(.br (.bvar 22)
(.call 3 (kSc) (.cons (.bin .and .u64 (.var 21) (.lit 31)) .nil) 23
(.call 4 (kRg) (.vs 0 5 (.vs 23 4 .nil)) 29
(.br (.lt (.var 30) (.lit 4294967296))
(.leaf (.vs 29 4 .nil))
(.leaf (.vs 17 4 .nil)))))
(.leaf (.vs 17 4 .nil))))
(.br (.eq (.var 0) (.lit 7))
(.call 2 [.int .u64,.bool] (.vs 7 6 .nil) 21
(.br (.bvar 22)
(.call 3 (kSc) (.cons (.bin .and .u64 (.var 21) (.lit 31)) .nil) 23
(.call 4 (kRg) (.vs 0 5 (.vs 23 4 .nil)) 29
(.br (.lt (.var 30) (.lit 4294967296))
(.leaf (.vs 29 4 .nil))
(.leaf (.vs 17 4 .nil)))))
(.leaf (.vs 17 4 .nil))))
(.call 4 (kRg) (.vs 0 5 (.vs 7 4 .nil)) 21
(.br (.lt (.var 22) (.lit 4294967296))
(.leaf (.vs 21 4 .nil))
(.leaf (.vs 17 4 .nil))))))))))
def yG:Spec:={F:=fun k=>match k with | 0=>bv | 1=>nE | 2=>eG | 3=>dg | 4=>wZ | _=>fun _=>[],pre:=fun k=>match k with | _=>fun _=>True}
theorem ahV:aq tys_VaB [dD 0,ze 1,kr 2,kt 3,aih 4] [] [] [] 200 Tryz.f191 [.one (.int .i8),.agg kSc,.agg kSc] [.agg kRg] false [.int .i8,.int .u64,.int .u64,.int .i64,.int .i64,.int .u64,.int .u64,.int .u64,.int .u64,.int .i64,.int .i64,.int .u64,.int .u64] sT_vhalf:=⟨by kernel_rfl,by kernel_rfl,by kernel_rfl⟩
theorem ahr (op:Int) (hop:inK .i8 op=true) (a:Sc) (ha:Sc.ok a) (b:Sc) (hb:Sc.ok b) (U:Env) (g:ab U 0 [.int .i8,.int .u64,.int .u64,.int .i64,.int .i64,.int .u64,.int .u64,.int .u64,.int .u64,.int .i64,.int .i64,.int .u64,.int .u64]=[.z op,.z a.ul,.z a.uh,.z a.sl,.z a.sh,.z a.v,.z a.m,.z b.ul,.z b.uh,.z b.sl,.z b.sh,.z b.v,.z b.m]):sT_vhalf.asks yG (fun U e=>e.D U=jo [.z op,.z a.ul,.z a.uh,.z a.sl,.z a.sh,.z a.v,.z a.m,.z b.ul,.z b.uh,.z b.sl,.z b.sh,.z b.v,.z b.m]) U fun _ _=>False:=by
 simp only[ab,varD,thm5,Dt.z.injEq,Dt.l.injEq,b2i_eq_iff,Nat.reduceAdd,and_true] at g
 simp only[sT_vhalf,yG,kRg,kSc,bv,nE,eG,dg,wZ,yx,kp,mw,ahP,jo,qr,Tr.asks,ah,okDs,okD,eqs,E.I,E.B,E.L,E.R,E.D,E.vs,E.gs,E.ins,E.sv,E.tn,E.iv,E.zs,E.zr,E.sg,E.tg,E.rg,E.rgs,E.pv,Nat.reduceSub,dI,dB,dL,varD,ab,S1,Nat.reduceAdd,-eq_self,ar,g]
 intro e; (try simp only[e,ar,-eq_self]); clear e
 intro e; (try simp only[e,ar,-eq_self]); clear e
 constructor<;>intro c0
 ·(obtain rfl:=eqz c0; rw[show de 8 a b=blow ball from by unfold de; simp]; try rfl)
 constructor<;>intro c1
 ·(obtain rfl:=eqz c1; rw[show de 12 a b=blow ball from by unfold de; simp]; try rfl)
 constructor<;>intro c2
 intro e; (try simp only[e,ar,-eq_self]); clear e
 constructor<;>intro c3
 intro e; (try simp only[e,ar,-eq_self]); clear e
 intro e; (try simp only[e,ar,-eq_self]); clear e
 constructor<;>intro c4
 ·(obtain rfl:=eqz c2; have h4:=thm3 c4; rw[show de 6 a b=bdo 6 a.r (vone (opI .and .u64 (kh b) 31)).r from(by unfold de; rw[if_neg (by decide),if_pos (by decide),if_pos c3]; exact if_pos h4)]; try rfl)
 ·(obtain rfl:=eqz c2; have h4:=thm2 c4; rw[show de 6 a b=blow ball from(by unfold de; rw[if_neg (by decide),if_pos (by decide),if_pos c3]; exact if_neg h4)]; try rfl)
 ·(obtain rfl:=eqz c2; rw[show de 6 a b=blow ball from by unfold de; simp[c3]]; try rfl)
 constructor<;>intro c5
 intro e; (try simp only[e,ar,-eq_self]); clear e
 constructor<;>intro c6
 intro e; (try simp only[e,ar,-eq_self]); clear e
 intro e; (try simp only[e,ar,-eq_self]); clear e
 constructor<;>intro c7
 ·(obtain rfl:=eqz c5; have h4:=thm3 c7; rw[show de 7 a b=bdo 7 a.r (vone (opI .and .u64 (kh b) 31)).r from(by unfold de; rw[if_neg (by decide),if_pos (by decide),if_pos c6]; exact if_pos h4)]; try rfl)
 ·(obtain rfl:=eqz c5; have h4:=thm2 c7; rw[show de 7 a b=blow ball from(by unfold de; rw[if_neg (by decide),if_pos (by decide),if_pos c6]; exact if_neg h4)]; try rfl)
 ·(obtain rfl:=eqz c5; rw[show de 7 a b=blow ball from by unfold de; simp[c6]]; try rfl)
 intro e; (try simp only[e,ar,-eq_self]); clear e
 constructor<;>intro c8
 ·(have n0:=nez c0; have n1:=nez c1; have n2:=nez c2; have n3:=nez c5; have h4:=thm3 c8; rw[show de op a b=bdo op a.r b.r from(by unfold de; rw[if_neg (by omega),if_neg (by omega)]; exact if_pos h4)]; try rfl)
 ·(have n0:=nez c0; have n1:=nez c1; have n2:=nez c2; have n3:=nez c5; have h4:=thm2 c8; rw[show de op a b=blow ball from(by unfold de; rw[if_neg (by omega),if_neg (by omega)]; exact if_neg h4)]; try rfl)
theorem aim {sp:Spec} {key:Nat} (hF:sp.F key=jo) (hP:sp.pre key=fun _=>True:=by rfl):SmOk Tryz.prog sp (qS key):=
 av (s:=qS key) hF hP (by kernel_rfl) bt (smc (eD rfl) (smc (ajS rfl) (smc (aaR rfl) (smc (rD rfl) (smc (aoV rfl) sm0))))) Tryz.func191 fn0 ahV (.inl rfl) (fun x0 gx0 x1 gx1 x2 gx2 x3 gx3 x4 gx4 x5 gx5 x6 gx6 x7 gx7 x8 gx8 x9 gx9 x10 gx10 x11 gx11 x12 gx12 hp U g=>ahr x0 gx0 ⟨x1,x2,x3,x4,x5,x6⟩ ⟨gx1,gx2,gx3,gx4,gx5,gx6⟩ ⟨x7,x8,x9,x10,x11,x12⟩ ⟨gx7,gx8,gx9,gx10,gx11,gx12⟩ U g)
def qV (key:Nat):Sm:=⟨145,key,[.one (.lit .i64 32)],[.agg kSc],false⟩
def jr:List Dt->List Dt
 | []=>[.z ((vbel 4294967295).ul),.z ((vbel 4294967295).uh),.z ((vbel 4294967295).sl),.z ((vbel 4294967295).sh),.z ((vbel 4294967295).v),.z ((vbel 4294967295).m)]
 | _=>[]
def sT_vbel4:Tr:=
(.call 0 (kRg) .nil 0
(.call 1 (kSc) (.cons (.var 0) (.cons (.lit 4294967295) (.vs 2 2 (.cons (.lit 0) (.cons (.lit 4294967295) .nil))))) 4
(.leaf (.vs 4 6 .nil))))
def yJ:Spec:={F:=fun k=>match k with | 0=>bv | 1=>bF | _=>fun _=>[],pre:=fun k=>match k with | _=>fun _=>True}
theorem ahY:aq tys_VaB [dD 0,dV 1] [] [] [] 200 Tryz.f145 [.one (.lit .i64 32)] [.agg kSc] false [] sT_vbel4:=⟨by kernel_rfl,by kernel_rfl,by kernel_rfl⟩
theorem ahu (U:Env) (g:ab U 0 []=[]):sT_vbel4.asks yJ (fun U e=>e.D U=jr []) U fun _ _=>False:=by
 simp only[sT_vbel4,yJ,kRg,kSc,bv,bF,dT,jr,Tr.asks,ah,okDs,okD,eqs,E.I,E.B,E.L,E.R,E.D,E.vs,E.gs,E.ins,E.sv,E.tn,E.iv,E.zs,E.zr,E.sg,E.tg,E.rg,E.rgs,E.pv,Nat.reduceSub,dI,dB,dL,varD,ab,S1,Nat.reduceAdd,-eq_self,ar]
 intro e; (try simp only[e,ar,-eq_self]); clear e
 intro e; (try simp only[e,ar,-eq_self]); clear e
 ·rfl
theorem aip {sp:Spec} {key:Nat} (hF:sp.F key=jr) (hP:sp.pre key=fun _=>True:=by rfl):SmOk Tryz.prog sp (qV key):=
 av (s:=qV key) hF hP (by kernel_rfl) bt (smc (eD rfl) (smc (gD rfl) sm0)) Tryz.func145 fn0 ahY (.inl rfl) (fun hp U g=>ahu U g)
def wF (key:Nat):Sm:=⟨81,key,[.one (.lit .i64 4)],[.agg kSc],false⟩
def ny:List Dt->List Dt
 | []=>[.z ((vbel 4294967295).ul),.z ((vbel 4294967295).uh),.z ((vbel 4294967295).sl),.z ((vbel 4294967295).sh),.z ((vbel 4294967295).v),.z ((vbel 4294967295).m)]
 | _=>[]
def sT_vby4:Tr:=
(.call 0 (kSc) .nil 0
(.leaf (.vs 0 6 .nil)))
def ad5:Spec:={F:=fun k=>match k with | 0=>jr | _=>fun _=>[],pre:=fun k=>match k with | _=>fun _=>True}
theorem alI:aq tys_VaB [qV 0] [] [] [] 200 Tryz.f81 [.one (.lit .i64 4)] [.agg kSc] false [] sT_vby4:=⟨by kernel_rfl,by kernel_rfl,by kernel_rfl⟩
theorem ak0 (U:Env) (g:ab U 0 []=[]):sT_vby4.asks ad5 (fun U e=>e.D U=ny []) U fun _ _=>False:=by
 simp only[sT_vby4,ad5,kSc,jr,ny,Tr.asks,ah,okDs,okD,eqs,E.I,E.B,E.L,E.R,E.D,E.vs,E.gs,E.ins,E.sv,E.tn,E.iv,E.zs,E.zr,E.sg,E.tg,E.rg,E.rgs,E.pv,Nat.reduceSub,dI,dB,dL,varD,ab,S1,Nat.reduceAdd,-eq_self,ar]
 intro e; (try simp only[e,ar,-eq_self]); clear e
 ·rfl
theorem aml {sp:Spec} {key:Nat} (hF:sp.F key=ny) (hP:sp.pre key=fun _=>True:=by rfl):SmOk Tryz.prog sp (wF key):=
 av (s:=wF key) hF hP (by kernel_rfl) bt (smc (aip rfl) sm0) Tryz.func81 fn0 alI (.inl rfl) (fun hp U g=>ak0 U g)
end Go.Proofs.YtfkhblmeioiciaaGreatDoor
