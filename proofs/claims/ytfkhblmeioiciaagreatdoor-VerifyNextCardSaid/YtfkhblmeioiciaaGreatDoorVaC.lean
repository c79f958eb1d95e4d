import Derived.Test.YtfkhblmeioiciaaGreatDoorVaB
import Derived.Test.YtfkhblmeioiciaaGreatDoorKaD
import Derived.Test.YtfkhblmeioiciaaGreatDoorVk
import Derived.Test.YtfkhblmeioiciaaGreatDoorProg
import Derived.Laws.Externs
set_option linter.unusedVariables false
set_option linter.unusedSimpArgs false
namespace Go.Proofs.YtfkhblmeioiciaaGreatDoor
open Go.RowKit Go.ChangeShapes Go.WideShapes
def tys_VaC:List (Nat×TI):=[(2,⟨false,1,[.int .i64 (.lit 0)],[],none,some .i64,false,false,none,8,false,none,false,0⟩),
 (27,⟨false,1,[.int .i64 (.lit 0)],[],none,some .i64,false,false,none,8,false,none,false,0⟩),
 (37,⟨false,1,[.int .i8 (.lit 0)],[],none,some .i8,false,false,none,1,false,none,false,0⟩),
 (42,⟨false,1,[.int .u64 (.lit 0)],[],none,some .u64,false,false,none,8,false,none,false,0⟩),
 (44,⟨true,4,(zN 4 2211),[(0,42),(1,42),(2,2),(3,2)],none,none,false,false,none,32,false,none,false,0⟩),
 (46,⟨true,2,[.int .u64 (.lit 0),.int .u64 (.lit 0)],[(0,42),(1,42)],none,none,false,false,none,16,false,none,false,0⟩),
 (48,⟨true,6,(zN 6 112211),[(0,44),(4,46)],none,none,false,false,none,48,false,none,false,0⟩)]
set_option maxRecDepth 100000 in
theorem zS:(tys_VaC.all fun p=>ckTI Tryz.prog p.1 p.2)=true:=by kernel_rfl
theorem qv:(tys_VaC.all fun p=>!p.2.eqok)=true:=by kernel_rfl
theorem zB:(tys_VaC.all fun p=>!p.2.keyok)=true:=by kernel_rfl
theorem zp:∀t i,(t,i)∈tys_VaC→TIok Tryz.prog t i:=by
 intro t i h
 refine bI (cM (f:=ckTI Tryz.prog) zS h) (fun he=> ?_) (fun he=> ?_) (fun he=> ?_)
 ·have h1:=List.all_eq_true.1 qv (t,i) h
  simp[he] at h1
 ·have h1:=List.all_eq_true.1 qv (t,i) h
  simp[he] at h1
 ·have h1:=List.all_eq_true.1 zB (t,i) h
  simp[he] at h1
def im (key:Nat):Sm:=⟨25,key,[.one (.int .i8),.one (.int .i8),.one (.lit .u64 0),.one (.lit .u64 0)],[.one (.int .u64),.one (.int .i64)],true⟩
def ig (op:Int) (l:Int):List Dt:=[.z (if okop op l=true then zdo op l 0 0 else 0),.z (if okop op l=true then 0 else 2)]
def fB:List Dt→List Dt
 | [.z x0,.z x1]=>ig x0 x1
 | _=>[]
theorem aei (op:Int) (hop:inK .i8 op=true) (l:Int) (hl:inK .i8 l=true):(∀w,Calls Tryz.prog 25 #[.int .i8 op,.int .i8 l,.int .u64 0,.int .u64 0] w fun e w'=>e=.returned (.tuple #[.int .u64 (if okop op l=true then zdo op l 0 0 else 0),.int .i64 (if okop op l=true then 0 else 2)])∧Ext w w')∧gq (.tuple #[.int .u64 (if okop op l=true then zdo op l 0 0 else 0),.int .i64 (if okop op l=true then 0 else 2)])=true:=by
 exact aaQ op hop l hl 0 (by decide) 0 (by decide)
theorem aeS {sp:Spec} {key:Nat} (hF:sp.F key=fB):SmOk Tryz.prog sp (im key):=by
 refine SmOk.pure hF rfl rfl fun xs vals w h=> ?_
 obtain⟨_,_,_,rfl,⟨x0,rfl,rfl,gx0⟩,h⟩:=h
 obtain⟨_,_,_,rfl,⟨x1,rfl,rfl,gx1⟩,h⟩:=h
 obtain⟨_,_,_,rfl,⟨rfl,rfl⟩,h⟩:=h
 obtain⟨_,_,_,rfl,⟨rfl,rfl⟩,h⟩:=h
 obtain⟨rfl,rfl⟩:=h
 have q:=aei x0 gx0 x1 gx1
 refine⟨_,.inr ⟨cB Tryz.func25 (by kernel_rfl) (by kernel_rfl) _ w,q.1 w⟩,?_,fun ρ v0 nid j he=> ?_⟩
 ·have q2:=q.2
  simp[gq,fd,fu] at q2
  simp[im,fB,ig,List.flatMap_cons,List.flatMap_nil,Sh.cks,List.append_nil,List.cons_append,List.nil_append,b2i_one,dU,q2]
 ·simp only[im,fB,ig,List.flatMap_cons,List.flatMap_nil,Sh.cks,List.append_nil,List.cons_append,List.nil_append,b2i_one,eqs,dI,dB,List.getElem?_cons_zero,List.getElem?_cons_succ,Nat.zero_add,Nat.add_zero,Nat.reduceAdd,and_true] at he
  simp[im,fB,ig,List.flatMap_cons,List.flatMap_nil,Sh.cks,List.append_nil,List.cons_append,List.nil_append,b2i_one,dT,aQ,ax,V.den,C.den,denL,den0,aU,E.I,E.B,he]
def abF (key:Nat):Sm:=⟨143,key,[.one (.int .i8),.one (.int .i8),.agg kSc,.agg kSc],[.agg kSc],false⟩
def aaR (op:Int) (l:Int) (a:Sc) (b:Sc):List Dt:=[.z ((vdo op l a b).ul),.z ((vdo op l a b).uh),.z ((vdo op l a b).sl),.z ((vdo op l a b).sh),.z ((vdo op l a b).v),.z ((vdo op l a b).m)]
def ri:List Dt→List Dt
 | [.z x0,.z x1,.z x2,.z x3,.z x4,.z x5,.z x6,.z x7,.z x8,.z x9,.z x10,.z x11,.z x12,.z x13]=>aaR x0 x1 ⟨x2,x3,x4,x5,x6,x7⟩ ⟨x8,x9,x10,x11,x12,x13⟩
 | _=>[]
def sT_vdo:Tr:=
(.call 0 [.int .u64,.int .i64] (.vs 0 2 .nil) 14
(.br (.eq (.var 15) (.lit 0))
(.call 1 [.bool] (.vs 2 6 .nil) 16
(.br (.bvar 16)
(.call 1 [.bool] (.vs 8 6 .nil) 17
(.br (.bvar 17)
(.br (.eq (.var 1) (.lit 64))
(.call 3 (kRg) (.cons (.var 0) (.vs 2 4 (.vs 8 4 .nil))) 18
(.call 4 (kKn) (.vs 0 2 (.vs 6 2 (.vs 12 2 .nil))) 22
(.call 5 (kSc) (.vs 18 6 .nil) 24
(.leaf (.vs 24 6 .nil)))))
(.call 6 (kSc) (.vs 2 6 .nil) 18
(.call 6 (kSc) (.vs 8 6 .nil) 24
(.call 7 (kRg) (.cons (.var 0) (.vs 18 12 .nil)) 30
(.call 4 (kKn) (.vs 0 2 (.vs 22 2 (.vs 28 2 .nil))) 34
(.call 8 (kSc++[.bool]) (.vs 30 6 .nil) 36
(.br (.bvar 42)
(.leaf (.vs 36 6 .nil))
(.call 9 (kSc) .nil 43
(.leaf (.vs 43 6 .nil))))))))))
(.call 2 (kSc) .nil 18
(.leaf (.vs 18 6 .nil)))))
(.call 2 (kSc) .nil 17
(.leaf (.vs 17 6 .nil)))))
(.call 2 (kSc) .nil 16
(.leaf (.vs 16 6 .nil)))))
def afR:Spec:={F:=fun k=>match k with | 0=>fB | 1=>ct | 2=>em | 3=>tW | 4=>rq | 5=>bY | 6=>lI | 7=>iy | 8=>gF | 9=>lL | _=>fun _=>[],pre:=fun k=>match k with | _=>fun _=>True}
set_option maxRecDepth 100000 in
theorem akd:am tys_VaC [im 0,gB 1,lx 2,aeC 3,abK 4,fA 5,tx 6,oW 7,oV 8,tC 9] [] [] [] 200 Tryz.f143 [.one (.int .i8),.one (.int .i8),.agg kSc,.agg kSc] [.agg kSc] false [.int .i8,.int .i8,.int .u64,.int .u64,.int .i64,.int .i64,.int .u64,.int .u64,.int .u64,.int .u64,.int .i64,.int .i64,.int .u64,.int .u64] sT_vdo:=⟨by kernel_rfl,by kernel_rfl,by kernel_rfl⟩
set_option maxRecDepth 100000 in
set_option maxHeartbeats 8000000 in
theorem ajU (op:Int) (hop:inK .i8 op=true) (l:Int) (hl:inK .i8 l=true) (a:Sc) (ha:Sc.ok a) (b:Sc) (hb:Sc.ok b) (ρ:Env) (g:af ρ 0 [.int .i8,.int .i8,.int .u64,.int .u64,.int .i64,.int .i64,.int .u64,.int .u64,.int .u64,.int .u64,.int .i64,.int .i64,.int .u64,.int .u64]=[.z op,.z l,.z a.ul,.z a.uh,.z a.sl,.z a.sh,.z a.v,.z a.m,.z b.ul,.z b.uh,.z b.sl,.z b.sh,.z b.v,.z b.m]):sT_vdo.asks afR (fun ρ e=>e.D ρ=ri [.z op,.z l,.z a.ul,.z a.uh,.z a.sl,.z a.sh,.z a.v,.z a.m,.z b.ul,.z b.uh,.z b.sl,.z b.sh,.z b.v,.z b.m]) ρ fun _ _=>False:=by
 simp only[af,varD,List.cons.injEq,Dt.z.injEq,Dt.l.injEq,b2i_eq_iff,Nat.reduceAdd,and_true] at g
 simp only[sT_vdo,afR,kKn,kRg,kSc,fB,ct,em,tW,rq,bY,lI,iy,gF,lL,ig,gv,aek,aaW,fz,sT,oG,oF,ri,aaR,Tr.asks,ai,okDs,okD,eqs,E.I,E.B,E.L,E.R,E.D,E.vs,E.gs,E.ins,E.sv,E.tn,E.iv,E.zs,E.pv,Nat.reduceSub,dI,dB,dL,varD,af,S1,Nat.reduceAdd,-eq_self,Kn.eta,Pi.eta,Pu.eta,Rg.eta,Sc.eta,Sc.eta_r,Sc.eta_k,Sc.eta_2,g]
 intro e; (try simp only[e,Kn.eta,Pi.eta,Pu.eta,Rg.eta,Sc.eta,Sc.eta_r,Sc.eta_k,Sc.eta_2,-eq_self]); clear e
 constructor<;>intro c0
 intro e; (try simp only[e,Kn.eta,Pi.eta,Pu.eta,Rg.eta,Sc.eta,Sc.eta_r,Sc.eta_k,Sc.eta_2,-eq_self]); clear e
 constructor<;>intro c1
 intro e; (try simp only[e,Kn.eta,Pi.eta,Pu.eta,Rg.eta,Sc.eta,Sc.eta_r,Sc.eta_k,Sc.eta_2,-eq_self]); clear e
 constructor<;>intro c2
 constructor<;>intro c3
 intro e; (try simp only[e,Kn.eta,Pi.eta,Pu.eta,Rg.eta,Sc.eta,Sc.eta_r,Sc.eta_k,Sc.eta_2,-eq_self]); clear e
 intro e; (try simp only[e,Kn.eta,Pi.eta,Pu.eta,Rg.eta,Sc.eta,Sc.eta_r,Sc.eta_k,Sc.eta_2,-eq_self]); clear e
 intro e; (try simp only[e,Kn.eta,Pi.eta,Pu.eta,Rg.eta,Sc.eta,Sc.eta_r,Sc.eta_k,Sc.eta_2,-eq_self]); clear e
 ·(obtain rfl:=eqz c3; have hk:=aiX c0; rw[show vdo op 64 a b=vnar (sc (bdo op a.r b.r) (kdo op 64 a.k b.k)) from by unfold vdo; simp[hk,c1,c2]]; try rfl)
 intro e; (try simp only[e,Kn.eta,Pi.eta,Pu.eta,Rg.eta,Sc.eta,Sc.eta_r,Sc.eta_k,Sc.eta_2,-eq_self]); clear e
 intro e; (try simp only[e,Kn.eta,Pi.eta,Pu.eta,Rg.eta,Sc.eta,Sc.eta_r,Sc.eta_k,Sc.eta_2,-eq_self]); clear e
 intro e; (try simp only[e,Kn.eta,Pi.eta,Pu.eta,Rg.eta,Sc.eta,Sc.eta_r,Sc.eta_k,Sc.eta_2,-eq_self]); clear e
 intro e; (try simp only[e,Kn.eta,Pi.eta,Pu.eta,Rg.eta,Sc.eta,Sc.eta_r,Sc.eta_k,Sc.eta_2,-eq_self]); clear e
 intro e; (try simp only[e,Kn.eta,Pi.eta,Pu.eta,Rg.eta,Sc.eta,Sc.eta_r,Sc.eta_k,Sc.eta_2,-eq_self]); clear e
 constructor<;>intro c4
 ·(have n:=nez c3; have hk:=aiX c0; have c5:vnok (vhf op l a b)=true:=c4; rw[show vdo op l a b=vnar (vhf op l a b) from by unfold vdo; simp[hk,c1,c2,n,c5]]; try rfl)
 intro e; (try simp only[e,Kn.eta,Pi.eta,Pu.eta,Rg.eta,Sc.eta,Sc.eta_r,Sc.eta_k,Sc.eta_2,-eq_self]); clear e
 ·(have n:=nez c3; have hk:=aiX c0; have c5:vnok (vhf op l a b)=false:=c4; rw[show vdo op l a b=vbel 4294967295 from by unfold vdo; simp[hk,c1,c2,n,c5]]; try rfl)
 intro e; (try simp only[e,Kn.eta,Pi.eta,Pu.eta,Rg.eta,Sc.eta,Sc.eta_r,Sc.eta_k,Sc.eta_2,-eq_self]); clear e
 ·(rw[show vdo op l a b=vall from by unfold vdo; simp[c2]]; try rfl)
 intro e; (try simp only[e,Kn.eta,Pi.eta,Pu.eta,Rg.eta,Sc.eta,Sc.eta_r,Sc.eta_k,Sc.eta_2,-eq_self]); clear e
 ·(rw[show vdo op l a b=vall from by unfold vdo; simp[c1]]; try rfl)
 intro e; (try simp only[e,Kn.eta,Pi.eta,Pu.eta,Rg.eta,Sc.eta,Sc.eta_r,Sc.eta_k,Sc.eta_2,-eq_self]); clear e
 ·(have hk:=akW c0; rw[show vdo op l a b=vall from by unfold vdo; simp[hk]]; try rfl)
theorem akx {sp:Spec} {key:Nat} (hF:sp.F key=ri) (hP:sp.pre key=fun _=>True:=by rfl):SmOk Tryz.prog sp (abF key):=
 an (s:=abF key) hF hP (by kernel_rfl) zp (smc (aeS rfl) (smc (lE rfl) (smc (tT rfl) (smc (akH rfl) (smc (akE rfl) (smc (kD rfl) (smc (aie rfl) (smc (aeH rfl) (smc (abO rfl) (smc (aih rfl) sm0)))))))))) Tryz.func143 fn0 akd (.inl rfl) (fun x0 gx0 x1 gx1 x2 gx2 x3 gx3 x4 gx4 x5 gx5 x6 gx6 x7 gx7 x8 gx8 x9 gx9 x10 gx10 x11 gx11 x12 gx12 x13 gx13 hp ρ g=>ajU x0 gx0 x1 gx1 ⟨x2,x3,x4,x5,x6,x7⟩ ⟨gx2,gx3,gx4,gx5,gx6,gx7⟩ ⟨x8,x9,x10,x11,x12,x13⟩ ⟨gx8,gx9,gx10,gx11,gx12,gx13⟩ ρ g)
end Go.Proofs.YtfkhblmeioiciaaGreatDoor
