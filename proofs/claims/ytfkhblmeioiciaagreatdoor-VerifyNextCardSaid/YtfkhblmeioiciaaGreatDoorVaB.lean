import Derived.Test.YtfkhblmeioiciaaGreatDoorVaA
import Derived.Test.YtfkhblmeioiciaaGreatDoorProg
import Derived.Laws.Externs
set_option linter.unusedVariables false
set_option linter.unusedSimpArgs false
namespace Go.Proofs.YtfkhblmeioiciaaGreatDoor
open Go.RowKit Go.ChangeShapes Go.WideShapes
def tys_VaB:List (Nat×TI):=[(2,⟨false,1,[.int .i64 (.lit 0)],[],none,some .i64,false,false,none,8,false,none,false,0⟩),
 (3,⟨false,1,[.int .i64 (.lit 0)],[],none,some .i64,false,false,none,8,false,none,false,0⟩),
 (37,⟨false,1,[.int .i8 (.lit 0)],[],none,some .i8,false,false,none,1,false,none,false,0⟩),
 (42,⟨false,1,[.int .u64 (.lit 0)],[],none,some .u64,false,false,none,8,false,none,false,0⟩),
 (44,⟨true,4,(zN 4 2211),[(0,42),(1,42),(2,2),(3,2)],none,none,false,false,none,32,false,none,false,0⟩),
 (46,⟨true,2,[.int .u64 (.lit 0),.int .u64 (.lit 0)],[(0,42),(1,42)],none,none,false,false,none,16,false,none,false,0⟩),
 (48,⟨true,6,(zN 6 112211),[(0,44),(4,46)],none,none,false,false,none,48,false,none,false,0⟩)]
set_option maxRecDepth 100000 in
theorem zT:(tys_VaB.all fun p=>ckTI Tryz.prog p.1 p.2)=true:=by kernel_rfl
theorem qw:(tys_VaB.all fun p=>!p.2.eqok)=true:=by kernel_rfl
theorem zC:(tys_VaB.all fun p=>!p.2.keyok)=true:=by kernel_rfl
theorem cU:∀t i,(t,i)∈tys_VaB→TIok Tryz.prog t i:=by
 intro t i h
 refine bI (cM (f:=ckTI Tryz.prog) zT h) (fun he=> ?_) (fun he=> ?_) (fun he=> ?_)
 ·have h1:=List.all_eq_true.1 qw (t,i) h
  simp[he] at h1
 ·have h1:=List.all_eq_true.1 qw (t,i) h
  simp[he] at h1
 ·have h1:=List.all_eq_true.1 zC (t,i) h
  simp[he] at h1
def tB (key:Nat):Sm:=⟨203,key,[.agg kRg],[.agg kKn],false⟩
def sV (a:Rg):List Dt:=[.z ((kcom a).v),.z ((kcom a).m)]
def lK:List Dt→List Dt
 | [.z x0,.z x1,.z x2,.z x3]=>sV ⟨x0,x1,x2,x3⟩
 | _=>[]
def sT_vcom:Tr:=
(.call 0 [.int .i64] (.cons (.bin .xor .u64 (.var 0) (.var 1)) .nil) 4
(.br (.lt (.lit 0) (.var 4))
(.br (.lt (.bin .sub .i64 (.lit 64) (.var 4)) (.lit 0))
.panic
(.leaf (.cons (.bin .andNot .u64 (.var 0) (.bin .sub .u64 (.bin .shl .u64 (.lit 1) (.bin .sub .i64 (.lit 64) (.var 4))) (.lit 1))) (.cons (.bin .sub .u64 (.bin .shl .u64 (.lit 1) (.bin .sub .i64 (.lit 64) (.var 4))) (.lit 1)) .nil))))
(.leaf (.cons (.bin .andNot .u64 (.var 0) (.lit 18446744073709551615)) (.cons (.lit 18446744073709551615) .nil)))))
def abb:Spec:={F:=fun k=>match k with | 0=>rn | _=>fun _=>[],pre:=fun k=>match k with | _=>fun _=>True}
set_option maxRecDepth 100000 in
theorem ahL:am tys_VaB [xU 0] [] [] [] 200 Tryz.f203 [.agg kRg] [.agg kKn] false [.int .u64,.int .u64,.int .i64,.int .i64] sT_vcom:=⟨by kernel_rfl,by kernel_rfl,by kernel_rfl⟩
set_option maxRecDepth 100000 in
set_option maxHeartbeats 8000000 in
theorem ahb (a:Rg) (ha:Rg.ok a) (ρ:Env) (g:af ρ 0 [.int .u64,.int .u64,.int .i64,.int .i64]=[.z a.ul,.z a.uh,.z a.sl,.z a.sh]):sT_vcom.asks abb (fun ρ e=>e.D ρ=lK [.z a.ul,.z a.uh,.z a.sl,.z a.sh]) ρ fun _ _=>False:=by
 simp only[af,varD,List.cons.injEq,Dt.z.injEq,Dt.l.injEq,b2i_eq_iff,Nat.reduceAdd,and_true] at g
 simp only[sT_vcom,abb,rn,xP,lK,sV,Tr.asks,ai,okDs,okD,eqs,E.I,E.B,E.L,E.R,E.D,E.vs,E.gs,E.ins,E.sv,E.tn,E.iv,E.zs,E.pv,Nat.reduceSub,dI,dB,dL,varD,af,S1,Nat.reduceAdd,-eq_self,Kn.eta,Pi.eta,Pu.eta,Rg.eta,Sc.eta,Sc.eta_r,Sc.eta_k,Sc.eta_2,g]
 intro e; (try simp only[e,Kn.eta,Pi.eta,Pu.eta,Rg.eta,Sc.eta,Sc.eta_r,Sc.eta_k,Sc.eta_2,-eq_self]); clear e
 constructor<;>intro c0
 constructor<;>intro c1
 ·(have hx:=mZ a.ul a.uh; have hb:au (bits .xor .u64 a.ul a.uh).toNat≤64:=dm (by omega); have h1:IntKind.i64.wrap (64-(64-(au (bits .xor .u64 a.ul a.uh).toNat:Int)))<0:=of_decide_eq_true c1; rw[cy] at h1; omega)
 ·exact aG (ak2 (Rg.wf_of ha))
 ·exact aG (ak3 (Rg.wf_of ha) c0)
theorem aig {sp:Spec} {key:Nat} (hF:sp.F key=lK) (hP:sp.pre key=fun _=>True:=by rfl):SmOk Tryz.prog sp (tB key):=
 an (s:=tB key) hF hP (by kernel_rfl) cU (smc (akB rfl) sm0) Tryz.func203 fn0 ahL (.inl rfl) (fun x0 gx0 x1 gx1 x2 gx2 x3 gx3 hp ρ g=>ahb ⟨x0,x1,x2,x3⟩ ⟨gx0,gx1,gx2,gx3⟩ ρ g)
def oV (key:Nat):Sm:=⟨151,key,[.agg kSc],[.agg kSc,.one .bool],true⟩
def oF (a:Sc):List Dt:=[.z ((vnar a).ul),.z ((vnar a).uh),.z ((vnar a).sl),.z ((vnar a).sh),.z ((vnar a).v),.z ((vnar a).m),.z (b2i (vnok a))]
def gF:List Dt→List Dt
 | [.z x0,.z x1,.z x2,.z x3,.z x4,.z x5]=>oF ⟨x0,x1,x2,x3,x4,x5⟩
 | _=>[]
def sT_vnar:Tr:=
(.call 0 [.bool] (.vs 0 6 .nil) 6
(.br (.bvar 6)
(.call 2 (kRg) .nil 7
(.call 3 (kRg++[.bool]) (.vs 0 5 (.cons (.bin .or .u64 (.var 4) (.var 5)) (.vs 9 2 .nil))) 11
(.br (.bvar 15)
(.call 5 (kKn) (.vs 11 4 .nil) 16
(.call 4 (kKn++[.bool]) (.vs 4 2 (.vs 16 2 .nil)) 18
(.br (.bvar 20)
(.call 3 (kRg++[.bool]) (.vs 11 4 (.cons (.var 18) (.cons (.bin .or .u64 (.var 18) (.var 19)) (.vs 9 2 .nil)))) 21
(.br (.bvar 25)
(.call 5 (kKn) (.vs 21 4 .nil) 26
(.call 4 (kKn++[.bool]) (.vs 18 2 (.vs 26 2 .nil)) 28
(.br (.bvar 30)
(.leaf (.vs 21 4 (.vs 28 2 (.consb (.tt true) .nil))))
(.call 1 (kSc) .nil 31
(.leaf (.vs 31 6 (.consb (.tt false) .nil)))))))
(.call 1 (kSc) .nil 26
(.leaf (.vs 26 6 (.consb (.tt false) .nil))))))
(.call 1 (kSc) .nil 21
(.leaf (.vs 21 6 (.consb (.tt false) .nil)))))))
(.call 1 (kSc) .nil 16
(.leaf (.vs 16 6 (.consb (.tt false) .nil)))))))
(.call 1 (kSc) .nil 7
(.leaf (.vs 7 6 (.consb (.tt false) .nil))))))
def aa7:Spec:={F:=fun k=>match k with | 0=>ct | 1=>em | 2=>bt | 3=>lT | 4=>iE | 5=>lK | _=>fun _=>[],pre:=fun k=>match k with | _=>fun _=>True}
set_option maxRecDepth 100000 in
theorem ahH:am tys_VaB [gB 0,lx 1,eB 2,tI 3,pf 4,tB 5] [] [] [] 200 Tryz.f151 [.agg kSc] [.agg kSc,.one .bool] true [.int .u64,.int .u64,.int .i64,.int .i64,.int .u64,.int .u64] sT_vnar:=⟨by kernel_rfl,by kernel_rfl,by kernel_rfl⟩
set_option maxRecDepth 100000 in
set_option maxHeartbeats 8000000 in
theorem ag7 (a:Sc) (ha:Sc.ok a) (ρ:Env) (g:af ρ 0 [.int .u64,.int .u64,.int .i64,.int .i64,.int .u64,.int .u64]=[.z a.ul,.z a.uh,.z a.sl,.z a.sh,.z a.v,.z a.m]):sT_vnar.asks aa7 (fun ρ e=>e.D ρ=gF [.z a.ul,.z a.uh,.z a.sl,.z a.sh,.z a.v,.z a.m]) ρ fun _ _=>False:=by
 simp only[af,varD,List.cons.injEq,Dt.z.injEq,Dt.l.injEq,b2i_eq_iff,Nat.reduceAdd,and_true] at g
 simp only[sT_vnar,aa7,kKn,kRg,kSc,ct,em,bt,lT,iE,lK,gv,te,oM,sV,gF,oF,Tr.asks,ai,okDs,okD,eqs,E.I,E.B,E.L,E.R,E.D,E.vs,E.gs,E.ins,E.sv,E.tn,E.iv,E.zs,E.pv,Nat.reduceSub,dI,dB,dL,varD,af,S1,Nat.reduceAdd,-eq_self,Kn.eta,Pi.eta,Pu.eta,Rg.eta,Sc.eta,Sc.eta_r,Sc.eta_k,Sc.eta_2,g]
 intro e; (try simp only[e,Kn.eta,Pi.eta,Pu.eta,Rg.eta,Sc.eta,Sc.eta_r,Sc.eta_k,Sc.eta_2,-eq_self]); clear e
 constructor<;>intro c0
 intro e; (try simp only[e,Kn.eta,Pi.eta,Pu.eta,Rg.eta,Sc.eta,Sc.eta_r,Sc.eta_k,Sc.eta_2,-eq_self]); clear e
 intro e; (try simp only[e,Kn.eta,Pi.eta,Pu.eta,Rg.eta,Sc.eta,Sc.eta_r,Sc.eta_k,Sc.eta_2,-eq_self]); clear e
 constructor<;>intro c1
 intro e; (try simp only[e,Kn.eta,Pi.eta,Pu.eta,Rg.eta,Sc.eta,Sc.eta_r,Sc.eta_k,Sc.eta_2,-eq_self]); clear e
 intro e; (try simp only[e,Kn.eta,Pi.eta,Pu.eta,Rg.eta,Sc.eta,Sc.eta_r,Sc.eta_k,Sc.eta_2,-eq_self]); clear e
 constructor<;>intro c2
 intro e; (try simp only[e,Kn.eta,Pi.eta,Pu.eta,Rg.eta,Sc.eta,Sc.eta_r,Sc.eta_k,Sc.eta_2,-eq_self]); clear e
 constructor<;>intro c3
 intro e; (try simp only[e,Kn.eta,Pi.eta,Pu.eta,Rg.eta,Sc.eta,Sc.eta_r,Sc.eta_k,Sc.eta_2,-eq_self]); clear e
 intro e; (try simp only[e,Kn.eta,Pi.eta,Pu.eta,Rg.eta,Sc.eta,Sc.eta_r,Sc.eta_k,Sc.eta_2,-eq_self]); clear e
 constructor<;>intro c4
 ·(have q:=vn_t (a:=a) c0 c1 c2 c3 c4; rw[q.1,q.2]; try rfl)
 intro e; (try simp only[e,Kn.eta,Pi.eta,Pu.eta,Rg.eta,Sc.eta,Sc.eta_r,Sc.eta_k,Sc.eta_2,-eq_self]); clear e
 ·(have q:=vn_f (a:=a) (.inr (.inr (.inr (.inr (c4))))); rw[q.1,q.2]; try rfl)
 intro e; (try simp only[e,Kn.eta,Pi.eta,Pu.eta,Rg.eta,Sc.eta,Sc.eta_r,Sc.eta_k,Sc.eta_2,-eq_self]); clear e
 ·(have q:=vn_f (a:=a) (.inr (.inr (.inr (.inl c3)))); rw[q.1,q.2]; try rfl)
 intro e; (try simp only[e,Kn.eta,Pi.eta,Pu.eta,Rg.eta,Sc.eta,Sc.eta_r,Sc.eta_k,Sc.eta_2,-eq_self]); clear e
 ·(have q:=vn_f (a:=a) (.inr (.inr (.inl c2))); rw[q.1,q.2]; try rfl)
 intro e; (try simp only[e,Kn.eta,Pi.eta,Pu.eta,Rg.eta,Sc.eta,Sc.eta_r,Sc.eta_k,Sc.eta_2,-eq_self]); clear e
 ·(have q:=vn_f (a:=a) (.inr (.inl c1)); rw[q.1,q.2]; try rfl)
 intro e; (try simp only[e,Kn.eta,Pi.eta,Pu.eta,Rg.eta,Sc.eta,Sc.eta_r,Sc.eta_k,Sc.eta_2,-eq_self]); clear e
 ·(have q:=vn_f (a:=a) (.inl c0); rw[q.1,q.2]; try rfl)
theorem abO {sp:Spec} {key:Nat} (hF:sp.F key=gF) (hP:sp.pre key=fun _=>True:=by rfl):SmOk Tryz.prog sp (oV key):=
 an (s:=oV key) hF hP (by kernel_rfl) cU (smc (lE rfl) (smc (tT rfl) (smc (fY rfl) (smc (ain rfl) (smc (aeO rfl) (smc (aig rfl) sm0)))))) Tryz.func151 fn0 ahH (.inl rfl) (fun x0 gx0 x1 gx1 x2 gx2 x3 gx3 x4 gx4 x5 gx5 hp ρ g=>ag7 ⟨x0,x1,x2,x3,x4,x5⟩ ⟨gx0,gx1,gx2,gx3,gx4,gx5⟩ ρ g)
def fA (key:Nat):Sm:=⟨187,key,[.agg kSc],[.agg kSc],false⟩
def fz (a:Sc):List Dt:=[.z ((vnar a).ul),.z ((vnar a).uh),.z ((vnar a).sl),.z ((vnar a).sh),.z ((vnar a).v),.z ((vnar a).m)]
def bY:List Dt→List Dt
 | [.z x0,.z x1,.z x2,.z x3,.z x4,.z x5]=>fz ⟨x0,x1,x2,x3,x4,x5⟩
 | _=>[]
def sT_vnard:Tr:=
(.call 0 (kSc++[.bool]) (.vs 0 6 .nil) 6
(.leaf (.vs 6 6 .nil)))
def vz:Spec:={F:=fun k=>match k with | 0=>gF | _=>fun _=>[],pre:=fun k=>match k with | _=>fun _=>True}
set_option maxRecDepth 100000 in
theorem aep:am tys_VaB [oV 0] [] [] [] 200 Tryz.f187 [.agg kSc] [.agg kSc] false [.int .u64,.int .u64,.int .i64,.int .i64,.int .u64,.int .u64] sT_vnard:=⟨by kernel_rfl,by kernel_rfl,by kernel_rfl⟩
set_option maxRecDepth 100000 in
set_option maxHeartbeats 8000000 in
theorem ad5 (a:Sc) (ha:Sc.ok a) (ρ:Env) (g:af ρ 0 [.int .u64,.int .u64,.int .i64,.int .i64,.int .u64,.int .u64]=[.z a.ul,.z a.uh,.z a.sl,.z a.sh,.z a.v,.z a.m]):sT_vnard.asks vz (fun ρ e=>e.D ρ=bY [.z a.ul,.z a.uh,.z a.sl,.z a.sh,.z a.v,.z a.m]) ρ fun _ _=>False:=by
 simp only[af,varD,List.cons.injEq,Dt.z.injEq,Dt.l.injEq,b2i_eq_iff,Nat.reduceAdd,and_true] at g
 simp only[sT_vnard,vz,kSc,gF,oF,bY,fz,Tr.asks,ai,okDs,okD,eqs,E.I,E.B,E.L,E.R,E.D,E.vs,E.gs,E.ins,E.sv,E.tn,E.iv,E.zs,E.pv,Nat.reduceSub,dI,dB,dL,varD,af,S1,Nat.reduceAdd,-eq_self,Kn.eta,Pi.eta,Pu.eta,Rg.eta,Sc.eta,Sc.eta_r,Sc.eta_k,Sc.eta_2,g]
 intro e; (try simp only[e,Kn.eta,Pi.eta,Pu.eta,Rg.eta,Sc.eta,Sc.eta_r,Sc.eta_k,Sc.eta_2,-eq_self]); clear e
 ·rfl
theorem kD {sp:Spec} {key:Nat} (hF:sp.F key=bY) (hP:sp.pre key=fun _=>True:=by rfl):SmOk Tryz.prog sp (fA key):=
 an (s:=fA key) hF hP (by kernel_rfl) cU (smc (abO rfl) sm0) Tryz.func187 fn0 aep (.inl rfl) (fun x0 gx0 x1 gx1 x2 gx2 x3 gx3 x4 gx4 x5 gx5 hp ρ g=>ad5 ⟨x0,x1,x2,x3,x4,x5⟩ ⟨gx0,gx1,gx2,gx3,gx4,gx5⟩ ρ g)
def tx (key:Nat):Sm:=⟨190,key,[.agg kSc],[.agg kSc],false⟩
def sT (a:Sc):List Dt:=[.z ((vlow a).ul),.z ((vlow a).uh),.z ((vlow a).sl),.z ((vlow a).sh),.z ((vlow a).v),.z ((vlow a).m)]
def lI:List Dt→List Dt
 | [.z x0,.z x1,.z x2,.z x3,.z x4,.z x5]=>sT ⟨x0,x1,x2,x3,x4,x5⟩
 | _=>[]
def sT_vlow:Tr:=
(.call 0 (kRg) (.vs 0 4 .nil) 6
(.call 1 (kKn) (.vs 4 2 (.cons (.lit 32) .nil)) 10
(.call 2 (kSc) (.vs 6 6 .nil) 12
(.leaf (.vs 12 6 .nil)))))
def aa9:Spec:={F:=fun k=>match k with | 0=>lU | 1=>gJ | 2=>bY | _=>fun _=>[],pre:=fun k=>match k with | _=>fun _=>True}
set_option maxRecDepth 100000 in
theorem ahJ:am tys_VaB [vN 0,pg 1,fA 2] [] [] [] 200 Tryz.f190 [.agg kSc] [.agg kSc] false [.int .u64,.int .u64,.int .i64,.int .i64,.int .u64,.int .u64] sT_vlow:=⟨by kernel_rfl,by kernel_rfl,by kernel_rfl⟩
set_option maxRecDepth 100000 in
set_option maxHeartbeats 8000000 in
theorem ag9 (a:Sc) (ha:Sc.ok a) (ρ:Env) (g:af ρ 0 [.int .u64,.int .u64,.int .i64,.int .i64,.int .u64,.int .u64]=[.z a.ul,.z a.uh,.z a.sl,.z a.sh,.z a.v,.z a.m]):sT_vlow.asks aa9 (fun ρ e=>e.D ρ=lI [.z a.ul,.z a.uh,.z a.sl,.z a.sh,.z a.v,.z a.m]) ρ fun _ _=>False:=by
 simp only[af,varD,List.cons.injEq,Dt.z.injEq,Dt.l.injEq,b2i_eq_iff,Nat.reduceAdd,and_true] at g
 simp only[sT_vlow,aa9,kKn,kRg,kSc,lU,gJ,bY,vq,oN,fz,lI,sT,Tr.asks,ai,okDs,okD,eqs,E.I,E.B,E.L,E.R,E.D,E.vs,E.gs,E.ins,E.sv,E.tn,E.iv,E.zs,E.pv,Nat.reduceSub,dI,dB,dL,varD,af,S1,Nat.reduceAdd,-eq_self,Kn.eta,Pi.eta,Pu.eta,Rg.eta,Sc.eta,Sc.eta_r,Sc.eta_k,Sc.eta_2,g]
 intro e; (try simp only[e,Kn.eta,Pi.eta,Pu.eta,Rg.eta,Sc.eta,Sc.eta_r,Sc.eta_k,Sc.eta_2,-eq_self]); clear e
 intro e; (try simp only[e,Kn.eta,Pi.eta,Pu.eta,Rg.eta,Sc.eta,Sc.eta_r,Sc.eta_k,Sc.eta_2,-eq_self]); clear e
 intro e; (try simp only[e,Kn.eta,Pi.eta,Pu.eta,Rg.eta,Sc.eta,Sc.eta_r,Sc.eta_k,Sc.eta_2,-eq_self]); clear e
 ·rfl
theorem aie {sp:Spec} {key:Nat} (hF:sp.F key=lI) (hP:sp.pre key=fun _=>True:=by rfl):SmOk Tryz.prog sp (tx key):=
 an (s:=tx key) hF hP (by kernel_rfl) cU (smc (af9 rfl) (smc (abT rfl) (smc (kD rfl) sm0))) Tryz.func190 fn0 ahJ (.inl rfl) (fun x0 gx0 x1 gx1 x2 gx2 x3 gx3 x4 gx4 x5 gx5 hp ρ g=>ag9 ⟨x0,x1,x2,x3,x4,x5⟩ ⟨gx0,gx1,gx2,gx3,gx4,gx5⟩ ρ g)
def oW (key:Nat):Sm:=⟨191,key,[.one (.int .i8),.agg kSc,.agg kSc],[.agg kRg],false⟩
def oG (op:Int) (a:Sc) (b:Sc):List Dt:=[.z ((bV op a b).ul),.z ((bV op a b).uh),.z ((bV op a b).sl),.z ((bV op a b).sh)]
def iy:List Dt→List Dt
 | [.z x0,.z x1,.z x2,.z x3,.z x4,.z x5,.z x6,.z x7,.z x8,.z x9,.z x10,.z x11,.z x12]=>oG x0 ⟨x1,x2,x3,x4,x5,x6⟩ ⟨x7,x8,x9,x10,x11,x12⟩
 | _=>[]
def sT_vhalf:Tr:=
(.call 0 (kRg) .nil 13
(.call 1 (kRg) (.vs 13 4 .nil) 17
(.br (.eq (.var 0) (.lit 8))
(.leaf (.vs 17 4 .nil))
(.br (.eq (.var 0) (.lit 12))
(.leaf (.vs 17 4 .nil))
(.br (.eq (.var 0) (.lit 6))
(.call 2 [.int .u64,.bool] (.vs 7 6 .nil) 21
(.br (.bvar 22)
(.call 3 (kSc) (.cons (.bin .and .u64 (.var 21) (.lit 31)) .nil) 23
(.call 4 (kRg) (.vs 0 5 (.vs 23 4 .nil)) 29
(.br (.lt (.var 30) (.lit 4294967296))
(.leaf (.vs 29 4 .nil))
(.leaf (.vs 17 4 .nil)))))
(.leaf (.vs 17 4 .nil))))
(.br (.eq (.var 0) (.lit 7))
(.call 2 [.int .u64,.bool] (.vs 7 6 .nil) 21
(.br (.bvar 22)
(.call 3 (kSc) (.cons (.bin .and .u64 (.var 21) (.lit 31)) .nil) 23
(.call 4 (kRg) (.vs 0 5 (.vs 23 4 .nil)) 29
(.br (.lt (.var 30) (.lit 4294967296))
(.leaf (.vs 29 4 .nil))
(.leaf (.vs 17 4 .nil)))))
(.leaf (.vs 17 4 .nil))))
(.call 4 (kRg) (.vs 0 5 (.vs 7 4 .nil)) 21
(.br (.lt (.var 22) (.lit 4294967296))
(.leaf (.vs 21 4 .nil))
(.leaf (.vs 17 4 .nil))))))))))
def vA:Spec:={F:=fun k=>match k with | 0=>bt | 1=>lU | 2=>dP | 3=>bo | 4=>tW | _=>fun _=>[],pre:=fun k=>match k with | _=>fun _=>True}
set_option maxRecDepth 100000 in
theorem aeq:am tys_VaB [eB 0,vN 1,jq 2,eh 3,aeC 4] [] [] [] 200 Tryz.f191 [.one (.int .i8),.agg kSc,.agg kSc] [.agg kRg] false [.int .i8,.int .u64,.int .u64,.int .i64,.int .i64,.int .u64,.int .u64,.int .u64,.int .u64,.int .i64,.int .i64,.int .u64,.int .u64] sT_vhalf:=⟨by kernel_rfl,by kernel_rfl,by kernel_rfl⟩
set_option maxRecDepth 100000 in
set_option maxHeartbeats 8000000 in
theorem ad6 (op:Int) (hop:inK .i8 op=true) (a:Sc) (ha:Sc.ok a) (b:Sc) (hb:Sc.ok b) (ρ:Env) (g:af ρ 0 [.int .i8,.int .u64,.int .u64,.int .i64,.int .i64,.int .u64,.int .u64,.int .u64,.int .u64,.int .i64,.int .i64,.int .u64,.int .u64]=[.z op,.z a.ul,.z a.uh,.z a.sl,.z a.sh,.z a.v,.z a.m,.z b.ul,.z b.uh,.z b.sl,.z b.sh,.z b.v,.z b.m]):sT_vhalf.asks vA (fun ρ e=>e.D ρ=iy [.z op,.z a.ul,.z a.uh,.z a.sl,.z a.sh,.z a.v,.z a.m,.z b.ul,.z b.uh,.z b.sl,.z b.sh,.z b.v,.z b.m]) ρ fun _ _=>False:=by
 simp only[af,varD,List.cons.injEq,Dt.z.injEq,Dt.l.injEq,b2i_eq_iff,Nat.reduceAdd,and_true] at g
 simp only[sT_vhalf,vA,kRg,kSc,bt,lU,dP,bo,tW,vq,jk,ef,aek,iy,oG,Tr.asks,ai,okDs,okD,eqs,E.I,E.B,E.L,E.R,E.D,E.vs,E.gs,E.ins,E.sv,E.tn,E.iv,E.zs,E.pv,Nat.reduceSub,dI,dB,dL,varD,af,S1,Nat.reduceAdd,-eq_self,Kn.eta,Pi.eta,Pu.eta,Rg.eta,Sc.eta,Sc.eta_r,Sc.eta_k,Sc.eta_2,g]
 intro e; (try simp only[e,Kn.eta,Pi.eta,Pu.eta,Rg.eta,Sc.eta,Sc.eta_r,Sc.eta_k,Sc.eta_2,-eq_self]); clear e
 intro e; (try simp only[e,Kn.eta,Pi.eta,Pu.eta,Rg.eta,Sc.eta,Sc.eta_r,Sc.eta_k,Sc.eta_2,-eq_self]); clear e
 constructor<;>intro c0
 ·(obtain rfl:=eqz c0; rw[show bV 8 a b=blow ball from by unfold bV; simp]; try rfl)
 constructor<;>intro c1
 ·(obtain rfl:=eqz c1; rw[show bV 12 a b=blow ball from by unfold bV; simp]; try rfl)
 constructor<;>intro c2
 intro e; (try simp only[e,Kn.eta,Pi.eta,Pu.eta,Rg.eta,Sc.eta,Sc.eta_r,Sc.eta_k,Sc.eta_2,-eq_self]); clear e
 constructor<;>intro c3
 intro e; (try simp only[e,Kn.eta,Pi.eta,Pu.eta,Rg.eta,Sc.eta,Sc.eta_r,Sc.eta_k,Sc.eta_2,-eq_self]); clear e
 intro e; (try simp only[e,Kn.eta,Pi.eta,Pu.eta,Rg.eta,Sc.eta,Sc.eta_r,Sc.eta_k,Sc.eta_2,-eq_self]); clear e
 constructor<;>intro c4
 ·(obtain rfl:=eqz c2; have h4:=of_decide_eq_true c4; rw[show bV 6 a b=bdo 6 a.r (vone (opI .and .u64 (eK b) 31)).r from(by unfold bV; rw[if_neg (by decide),if_pos (by decide),if_pos c3]; exact if_pos h4)]; try rfl)
 ·(obtain rfl:=eqz c2; have h4:=of_decide_eq_false c4; rw[show bV 6 a b=blow ball from(by unfold bV; rw[if_neg (by decide),if_pos (by decide),if_pos c3]; exact if_neg h4)]; try rfl)
 ·(obtain rfl:=eqz c2; rw[show bV 6 a b=blow ball from by unfold bV; simp[c3]]; try rfl)
 constructor<;>intro c5
 intro e; (try simp only[e,Kn.eta,Pi.eta,Pu.eta,Rg.eta,Sc.eta,Sc.eta_r,Sc.eta_k,Sc.eta_2,-eq_self]); clear e
 constructor<;>intro c6
 intro e; (try simp only[e,Kn.eta,Pi.eta,Pu.eta,Rg.eta,Sc.eta,Sc.eta_r,Sc.eta_k,Sc.eta_2,-eq_self]); clear e
 intro e; (try simp only[e,Kn.eta,Pi.eta,Pu.eta,Rg.eta,Sc.eta,Sc.eta_r,Sc.eta_k,Sc.eta_2,-eq_self]); clear e
 constructor<;>intro c7
 ·(obtain rfl:=eqz c5; have h4:=of_decide_eq_true c7; rw[show bV 7 a b=bdo 7 a.r (vone (opI .and .u64 (eK b) 31)).r from(by unfold bV; rw[if_neg (by decide),if_pos (by decide),if_pos c6]; exact if_pos h4)]; try rfl)
 ·(obtain rfl:=eqz c5; have h4:=of_decide_eq_false c7; rw[show bV 7 a b=blow ball from(by unfold bV; rw[if_neg (by decide),if_pos (by decide),if_pos c6]; exact if_neg h4)]; try rfl)
 ·(obtain rfl:=eqz c5; rw[show bV 7 a b=blow ball from by unfold bV; simp[c6]]; try rfl)
 intro e; (try simp only[e,Kn.eta,Pi.eta,Pu.eta,Rg.eta,Sc.eta,Sc.eta_r,Sc.eta_k,Sc.eta_2,-eq_self]); clear e
 constructor<;>intro c8
 ·(have n0:=nez c0; have n1:=nez c1; have n2:=nez c2; have n3:=nez c5; have h4:=of_decide_eq_true c8; rw[show bV op a b=bdo op a.r b.r from(by unfold bV; rw[if_neg (by omega),if_neg (by omega)]; exact if_pos h4)]; try rfl)
 ·(have n0:=nez c0; have n1:=nez c1; have n2:=nez c2; have n3:=nez c5; have h4:=of_decide_eq_false c8; rw[show bV op a b=blow ball from(by unfold bV; rw[if_neg (by omega),if_neg (by omega)]; exact if_neg h4)]; try rfl)
theorem aeH {sp:Spec} {key:Nat} (hF:sp.F key=iy) (hP:sp.pre key=fun _=>True:=by rfl):SmOk Tryz.prog sp (oW key):=
 an (s:=oW key) hF hP (by kernel_rfl) cU (smc (fY rfl) (smc (af9 rfl) (smc (xV rfl) (smc (gE rfl) (smc (akH rfl) sm0))))) Tryz.func191 fn0 aeq (.inl rfl) (fun x0 gx0 x1 gx1 x2 gx2 x3 gx3 x4 gx4 x5 gx5 x6 gx6 x7 gx7 x8 gx8 x9 gx9 x10 gx10 x11 gx11 x12 gx12 hp ρ g=>ad6 x0 gx0 ⟨x1,x2,x3,x4,x5,x6⟩ ⟨gx1,gx2,gx3,gx4,gx5,gx6⟩ ⟨x7,x8,x9,x10,x11,x12⟩ ⟨gx7,gx8,gx9,gx10,gx11,gx12⟩ ρ g)
def oX (key:Nat):Sm:=⟨145,key,[.one (.lit .i64 32)],[.agg kSc],false⟩
def iz:List Dt→List Dt
 | []=>[.z ((vbel 4294967295).ul),.z ((vbel 4294967295).uh),.z ((vbel 4294967295).sl),.z ((vbel 4294967295).sh),.z ((vbel 4294967295).v),.z ((vbel 4294967295).m)]
 | _=>[]
def sT_vbel4:Tr:=
(.call 0 (kRg) .nil 0
(.call 1 (kSc) (.cons (.var 0) (.cons (.lit 4294967295) (.vs 2 2 (.cons (.lit 0) (.cons (.lit 4294967295) .nil))))) 4
(.leaf (.vs 4 6 .nil))))
def vB:Spec:={F:=fun k=>match k with | 0=>bt | 1=>bY | _=>fun _=>[],pre:=fun k=>match k with | _=>fun _=>True}
set_option maxRecDepth 100000 in
theorem aer:am tys_VaB [eB 0,fA 1] [] [] [] 200 Tryz.f145 [.one (.lit .i64 32)] [.agg kSc] false [] sT_vbel4:=⟨by kernel_rfl,by kernel_rfl,by kernel_rfl⟩
set_option maxRecDepth 100000 in
set_option maxHeartbeats 8000000 in
theorem ad7 (ρ:Env) (g:af ρ 0 []=[]):sT_vbel4.asks vB (fun ρ e=>e.D ρ=iz []) ρ fun _ _=>False:=by
 simp only[sT_vbel4,vB,kRg,kSc,bt,bY,fz,iz,Tr.asks,ai,okDs,okD,eqs,E.I,E.B,E.L,E.R,E.D,E.vs,E.gs,E.ins,E.sv,E.tn,E.iv,E.zs,E.pv,Nat.reduceSub,dI,dB,dL,varD,af,S1,Nat.reduceAdd,-eq_self,Kn.eta,Pi.eta,Pu.eta,Rg.eta,Sc.eta,Sc.eta_r,Sc.eta_k,Sc.eta_2]
 intro e; (try simp only[e,Kn.eta,Pi.eta,Pu.eta,Rg.eta,Sc.eta,Sc.eta_r,Sc.eta_k,Sc.eta_2,-eq_self]); clear e
 intro e; (try simp only[e,Kn.eta,Pi.eta,Pu.eta,Rg.eta,Sc.eta,Sc.eta_r,Sc.eta_k,Sc.eta_2,-eq_self]); clear e
 ·rfl
theorem aeI {sp:Spec} {key:Nat} (hF:sp.F key=iz) (hP:sp.pre key=fun _=>True:=by rfl):SmOk Tryz.prog sp (oX key):=
 an (s:=oX key) hF hP (by kernel_rfl) cU (smc (fY rfl) (smc (kD rfl) sm0)) Tryz.func145 fn0 aer (.inl rfl) (fun hp ρ g=>ad7 ρ g)
def tC (key:Nat):Sm:=⟨81,key,[.one (.lit .i64 4)],[.agg kSc],false⟩
def lL:List Dt→List Dt
 | []=>[.z ((vbel 4294967295).ul),.z ((vbel 4294967295).uh),.z ((vbel 4294967295).sl),.z ((vbel 4294967295).sh),.z ((vbel 4294967295).v),.z ((vbel 4294967295).m)]
 | _=>[]
def sT_vby4:Tr:=
(.call 0 (kSc) .nil 0
(.leaf (.vs 0 6 .nil)))
def abc:Spec:={F:=fun k=>match k with | 0=>iz | _=>fun _=>[],pre:=fun k=>match k with | _=>fun _=>True}
set_option maxRecDepth 100000 in
theorem ahM:am tys_VaB [oX 0] [] [] [] 200 Tryz.f81 [.one (.lit .i64 4)] [.agg kSc] false [] sT_vby4:=⟨by kernel_rfl,by kernel_rfl,by kernel_rfl⟩
set_option maxRecDepth 100000 in
set_option maxHeartbeats 8000000 in
theorem ahc (ρ:Env) (g:af ρ 0 []=[]):sT_vby4.asks abc (fun ρ e=>e.D ρ=lL []) ρ fun _ _=>False:=by
 simp only[sT_vby4,abc,kSc,iz,lL,Tr.asks,ai,okDs,okD,eqs,E.I,E.B,E.L,E.R,E.D,E.vs,E.gs,E.ins,E.sv,E.tn,E.iv,E.zs,E.pv,Nat.reduceSub,dI,dB,dL,varD,af,S1,Nat.reduceAdd,-eq_self,Kn.eta,Pi.eta,Pu.eta,Rg.eta,Sc.eta,Sc.eta_r,Sc.eta_k,Sc.eta_2]
 intro e; (try simp only[e,Kn.eta,Pi.eta,Pu.eta,Rg.eta,Sc.eta,Sc.eta_r,Sc.eta_k,Sc.eta_2,-eq_self]); clear e
 ·rfl
theorem aih {sp:Spec} {key:Nat} (hF:sp.F key=lL) (hP:sp.pre key=fun _=>True:=by rfl):SmOk Tryz.prog sp (tC key):=
 an (s:=tC key) hF hP (by kernel_rfl) cU (smc (aeI rfl) sm0) Tryz.func81 fn0 ahM (.inl rfl) (fun hp ρ g=>ahc ρ g)
end Go.Proofs.YtfkhblmeioiciaaGreatDoor
