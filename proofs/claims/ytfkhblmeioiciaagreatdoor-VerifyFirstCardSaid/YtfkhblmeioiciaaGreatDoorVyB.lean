import Derived.Test.YtfkhblmeioiciaaGreatDoorVyA
import Derived.Test.YtfkhblmeioiciaaGreatDoorVaC
import Derived.Test.YtfkhblmeioiciaaGreatDoorSdB
import Derived.Test.YtfkhblmeioiciaaGreatDoorLiC
import Derived.Test.YtfkhblmeioiciaaGreatDoorTzA
import Derived.Test.YtfkhblmeioiciaaGreatDoorProg
import Derived.Laws.Externs
set_option maxRecDepth 100000
set_option maxHeartbeats 8000000
set_option linter.unusedVariables false
set_option linter.unusedSimpArgs false
namespace Go.Proofs.YtfkhblmeioiciaaGreatDoor
open Go.RowKit Go.ChangeShapes Go.WideShapes
def tys_VyB:List (Nat×TI):=[(2,⟨false,1,[.int .i64 (.lit 0)],[],none,some .i64,false,false,none,8,false,none,false,0⟩),
 (3,⟨false,1,[.int .i64 (.lit 0)],[],none,some .i64,false,false,none,8,false,none,false,0⟩),
 (4,⟨false,1,[.bool (.tt false)],[],none,none,false,true,none,1,false,none,false,0⟩),
 (37,⟨false,1,[.int .i8 (.lit 0)],[],none,some .i8,false,false,none,1,false,none,false,0⟩),
 (39,⟨true,9,(zN 9 220090000),[(0,37),(1,37),(2,37),(3,37),(4,4),(5,37),(6,37),(7,3),(8,3)],none,none,true,false,none,24,false,none,false,0⟩),
 (42,⟨false,1,[.int .u64 (.lit 0)],[],none,some .u64,false,false,none,8,false,none,false,0⟩),
 (44,⟨true,4,(zN 4 2211),[(0,42),(1,42),(2,2),(3,2)],none,none,false,false,none,32,false,none,false,0⟩),
 (46,⟨true,2,[.int .u64 (.lit 0),.int .u64 (.lit 0)],[(0,42),(1,42)],none,none,false,false,none,16,false,none,false,0⟩),
 (48,⟨true,6,(zN 6 112211),[(0,44),(4,46)],none,none,true,false,none,48,false,none,false,0⟩),
 (50,⟨true,9,(zN 9 221122110),[(0,37),(1,48),(7,3),(8,3)],none,none,true,false,none,72,false,none,false,0⟩),
 (70,⟨false,1,[.nsl],[],none,none,false,false,some 3,24,false,none,false,0⟩),
 (105,⟨false,1,[.int .u64 (.lit 0)],[],none,some .u64,false,false,none,8,false,none,false,0⟩),
 (167,⟨false,1,[.int .u32 (.lit 0)],[],none,some .u32,false,false,none,4,false,none,false,0⟩),
 (189,⟨true,10,(zN 10 0),[],some (10,37),none,false,false,none,10,false,none,false,0⟩)]
theorem acr:(tys_VyB.all fun p=>ckTI Tryz.prog p.1 p.2)=true:=by kernel_rfl
theorem sU:(tys_VyB.all fun p=>!p.2.eqok||((Nat.beq p.1 39&&aY p.2.zero oL)||(Nat.beq p.1 48&&aY p.2.zero z_Sc)||(Nat.beq p.1 50&&aY p.2.zero z_Ty)))=true:=by kernel_rfl
theorem ab6:(tys_VyB.all fun p=>!p.2.keyok)=true:=by kernel_rfl
theorem fI:∀t i,(t,i)∈tys_VyB->TIok Tryz.prog t i:=by
 intro t i h
 refine bC (cz (f:=ckTI Tryz.prog) acr h) (fun he=> ?_) (fun he=> ?_) (fun he=> ?_)
 ·have h1:=thm7.1 sU (t,i) h
  simp only[he,Bool.not_true,Bool.false_or,Bool.or_eq_true,thm0] at h1
  rcases h1 with(h1 | h1) | h1
  ·have hs:=h1.2
   obtain rfl:=thm1 h1.1
   exact fun vs us hv hu=>pC vs us (au hs hv) (au hs hu)
  ·have hs:=h1.2
   obtain rfl:=thm1 h1.1
   exact fun vs us hv hu=>vn vs us (au hs hv) (au hs hu)
  ·have hs:=h1.2
   obtain rfl:=thm1 h1.1
   exact fun vs us hv hu=>vm vs us (au hs hv) (au hs hu)
 ·have h1:=thm7.1 sU (t,i) h
  simp only[he,Bool.not_true,Bool.false_or,Bool.or_eq_true,thm0] at h1
  rcases h1 with(h1 | h1) | h1
  ·have hs:=h1.2
   obtain rfl:=thm1 h1.1
   exact kP
  ·have hs:=h1.2
   obtain rfl:=thm1 h1.1
   exact lz
  ·have hs:=h1.2
   obtain rfl:=thm1 h1.1
   exact ly
 ·have h1:=thm7.1 ab6 (t,i) h
  simp[he] at h1
def wG (key:Nat):Sm:=⟨145,key,[.one (.int .i64)],[.agg kSc],false⟩
def wd (n:Int):List Dt:=[.z ((vbel (opI .shr .u64 18446744073709551615 (opI .sub .i64 64 n))).ul),.z ((vbel (opI .shr .u64 18446744073709551615 (opI .sub .i64 64 n))).uh),.z ((vbel (opI .shr .u64 18446744073709551615 (opI .sub .i64 64 n))).sl),.z ((vbel (opI .shr .u64 18446744073709551615 (opI .sub .i64 64 n))).sh),.z ((vbel (opI .shr .u64 18446744073709551615 (opI .sub .i64 64 n))).v),.z ((vbel (opI .shr .u64 18446744073709551615 (opI .sub .i64 64 n))).m)]
def nz:List Dt->List Dt
 | [.z x0]=>wd x0
 | _=>[]
def sT_vbel:Tr:=
(.br (.lt (.bin .sub .i64 (.lit 64) (.var 0)) (.lit 0))
.panic
(.call 0 (kRg) .nil 1
(.call 1 (kSc) (.cons (.var 1) (.cons (.bin .shr .u64 (.lit 18446744073709551615) (.bin .sub .i64 (.lit 64) (.var 0))) (.vs 3 2 (.cons (.lit 0) (.cons (.bin .shr .u64 (.lit 18446744073709551615) (.bin .sub .i64 (.lit 64) (.var 0))) .nil))))) 5
(.leaf (.vs 5 6 .nil)))))
def ad6:Spec:={F:=fun k=>match k with | 0=>bv | 1=>bF | _=>fun _=>[],pre:=fun k=>match k with | _=>fun _=>True}
theorem alJ:aq tys_VyB [dD 0,dV 1] [] [] [] 200 Tryz.f145 [.one (.int .i64)] [.agg kSc] false [.int .i64] sT_vbel:=⟨by kernel_rfl,by kernel_rfl,by kernel_rfl⟩
def mO:List Dt->Prop
 | [.z x0]=>let f (n:Int):Prop:= -64<=n/\n<=64; f x0
 | _=>False
set_option linter.defProp false in
def ap:=And.intro Prog.eta (Ins.eta)
theorem ak1 (n:Int) (hn:inK .i64 n=true) (hp:mO [.z n]) (U:Env) (g:ab U 0 [.int .i64]=[.z n]):sT_vbel.asks ad6 (fun U e=>e.D U=nz [.z n]) U fun _ _=>False:=by
 simp only[mO,b2i_one,ao,ap,ae,af] at hp
 simp only[ab,varD,thm5,Dt.z.injEq,Dt.l.injEq,b2i_eq_iff,Nat.reduceAdd,and_true] at g
 simp only[sT_vbel,ad6,kRg,kSc,bv,bF,dT,nz,wd,Tr.asks,ah,okDs,okD,eqs,E.I,E.B,E.L,E.R,E.D,E.vs,E.gs,E.ins,E.sv,E.tn,E.iv,E.zs,E.zr,E.sg,E.tg,E.rg,E.rgs,E.pv,Nat.reduceSub,dI,dB,dL,varD,ab,S1,Nat.reduceAdd,-eq_self,ao,ap,ae,af,g]
 constructor<;>intro c0
 ·(have h:IntKind.i64.wrap (64-n)<0:=thm3 c0; have gn:=fu hn; rw[aU] at h; omega)
 intro e; (try simp only[e,ao,ap,ae,af,-eq_self]); clear e
 intro e; (try simp only[e,ao,ap,ae,af,-eq_self]); clear e
 ·rfl
theorem amm {sp:Spec} {key:Nat} (hF:sp.F key=nz) (hP:sp.pre key=mO):SmOk Tryz.prog sp (wG key):=
 av (s:=wG key) hF hP (by kernel_rfl) fI (smc (eD rfl) (smc (gD rfl) sm0)) Tryz.func145 fn0 alJ (.inl rfl) (fun x0 gx0 hp U g=>ak1 x0 gx0 hp U g)
def uj (key:Nat):Sm:=⟨81,key,[.one (.int .i64)],[.agg kSc],false⟩
def yu (q:Int):List Dt:=[.z ((vbyt q).ul),.z ((vbyt q).uh),.z ((vbyt q).sl),.z ((vbyt q).sh),.z ((vbyt q).v),.z ((vbyt q).m)]
def hC:List Dt->List Dt
 | [.z x0]=>yu x0
 | _=>[]
def sT_vby:Tr:=
(.call 0 (kSc) (.cons (.bin .mul .i64 (.lit 8) (.mn (.mx (.var 0) (.lit 1)) (.lit 8))) .nil) 1
(.leaf (.vs 1 6 .nil)))
def ajA:Spec:={F:=fun k=>match k with | 0=>nz | _=>fun _=>[],pre:=fun k=>match k with | 0=>mO | _=>fun _=>True}
theorem aop:aq tys_VyB [wG 0] [] [] [] 200 Tryz.f81 [.one (.int .i64)] [.agg kSc] false [.int .i64] sT_vby:=⟨by kernel_rfl,by kernel_rfl,by kernel_rfl⟩
theorem an3 (q:Int) (hq:inK .i64 q=true) (U:Env) (g:ab U 0 [.int .i64]=[.z q]):sT_vby.asks ajA (fun U e=>e.D U=hC [.z q]) U fun _ _=>False:=by
 simp only[ab,varD,thm5,Dt.z.injEq,Dt.l.injEq,b2i_eq_iff,Nat.reduceAdd,and_true] at g
 simp only[sT_vby,ajA,kSc,nz,wd,hC,yu,mO,Tr.asks,ah,okDs,okD,eqs,E.I,E.B,E.L,E.R,E.D,E.vs,E.gs,E.ins,E.sv,E.tn,E.iv,E.zs,E.zr,E.sg,E.tg,E.rg,E.rgs,E.pv,Nat.reduceSub,dI,dB,dL,varD,ab,S1,Nat.reduceAdd,-eq_self,ao,ap,ae,af,g]
 refine⟨?_,?_⟩
 ·(show -64<=IntKind.i64.wrap (8*min (max q 1) 8)/\IntKind.i64.wrap (8*min (max q 1) 8)<=64; rw[aU]; omega)
 intro e; (try simp only[e,ao,ap,ae,af,-eq_self]); clear e
 ·(refine apY ?_; unfold vbyt; rcases xM q with h | h | h | h | h | h | h | h<;>rw[h]<;>rfl)
theorem aeK {sp:Spec} {key:Nat} (hF:sp.F key=hC) (hP:sp.pre key=fun _=>True:=by rfl):SmOk Tryz.prog sp (uj key):=
 av (s:=uj key) hF hP (by kernel_rfl) fI (smc (amm rfl rfl) sm0) Tryz.func81 fn0 aop (.inl rfl) (fun x0 gx0 hp U g=>an3 x0 gx0 U g)
def amd (key:Nat):Sm:=⟨77,key,[.one (.int .u64)],[.one (.int .i64)],false⟩
def aol (x:Int):List Dt:=[.z (tzI x)]
def aiE:List Dt->List Dt
 | [.z x0]=>aol x0
 | _=>[]
def sT_tz:Tr:=
(.call 0 [.int .i64] (.cons (.var 0) .nil) 1
(.leaf (.cons (.var 1) .nil)))
def aoG:Spec:={F:=fun k=>match k with | 0=>nC | _=>fun _=>[],pre:=fun k=>match k with | _=>fun _=>True,hw:=sHw,hx:=sHx,hi:=sHi}
theorem aqo:aq tys_VyB [wL 0] [] [] [] 200 Tryz.f77 [.one (.int .u64)] [.one (.int .i64)] false [.int .u64] sT_tz:=⟨by kernel_rfl,by kernel_rfl,by kernel_rfl⟩
theorem aqk (x:Int) (hx:inK .u64 x=true) (U:Env) (g:ab U 0 [.int .u64]=[.z x]):sT_tz.asks aoG (fun U e=>e.D U=aiE [.z x]) U fun _ _=>False:=by
 simp only[ab,varD,thm5,Dt.z.injEq,Dt.l.injEq,b2i_eq_iff,Nat.reduceAdd,and_true] at g
 simp only[sT_tz,aoG,nC,adA,aiE,aol,Tr.asks,ah,okDs,okD,eqs,E.I,E.B,E.L,E.R,E.D,E.vs,E.gs,E.ins,E.sv,E.tn,E.iv,E.zs,E.zr,E.sg,E.tg,E.rg,E.rgs,E.pv,Nat.reduceSub,dI,dB,dL,varD,ab,S1,Nat.reduceAdd,-eq_self,ao,ap,ae,af,g]
 intro e; (try simp only[e,ao,ap,ae,af,-eq_self]); clear e
 ·(simp only[nC]; try rfl)
theorem aqr {sp:Spec} {key:Nat} (hF:sp.F key=aiE) (hP:sp.pre key=fun _=>True:=by rfl) (hH:∀w,sp.hw w->sHw w:=by exact fun _ h=>h):SmOk Tryz.prog sp (amd key):=
 av (s:=amd key) (hW:=hH) hF hP (by kernel_rfl) fI (smc (aeN rfl) sm0) Tryz.func77 fn0 aqo (.inl rfl) (fun x0 gx0 hp U g=>aqk x0 gx0 U g)
def wV (key:Nat):Sm:=⟨85,key,[.one (.int .i8)],[.one (.int .i8),.one .bool],true⟩
def adI (cc:Int):List Dt:=[.z (gB cc),.z (b2i (eR cc))]
def rF:List Dt->List Dt
 | [.z x0]=>adI x0
 | _=>[]
def sT_bnot:Tr:=
(.br (.lt (.var 0) (.lit 0))
(.leaf (.cons (.lit 0) (.consb (.tt false) .nil)))
(.br (.lt (.var 0) (.lit 10))
(.br (.eq (.var 0) (.lit 0))
(.leaf (.cons (.lit 1) (.consb (.tt true) .nil)))
(.br (.eq (.var 0) (.lit 1))
(.leaf (.cons (.lit 0) (.consb (.tt true) .nil)))
(.br (.eq (.var 0) (.lit 2))
(.leaf (.cons (.lit 5) (.consb (.tt true) .nil)))
(.br (.eq (.var 0) (.lit 3))
(.leaf (.cons (.lit 4) (.consb (.tt true) .nil)))
(.br (.eq (.var 0) (.lit 4))
(.leaf (.cons (.lit 3) (.consb (.tt true) .nil)))
(.br (.eq (.var 0) (.lit 5))
(.leaf (.cons (.lit 2) (.consb (.tt true) .nil)))
(.br (.eq (.var 0) (.lit 6))
(.leaf (.cons (.lit 9) (.consb (.tt true) .nil)))
(.br (.eq (.var 0) (.lit 7))
(.leaf (.cons (.lit 8) (.consb (.tt true) .nil)))
(.br (.eq (.var 0) (.lit 8))
(.leaf (.cons (.lit 7) (.consb (.tt true) .nil)))
(.br (.eq (.var 0) (.lit 9))
(.leaf (.cons (.lit 6) (.consb (.tt true) .nil)))
.panic))))))))))
(.leaf (.cons (.lit 0) (.consb (.tt false) .nil)))))
def aey:Spec:={F:=fun k=>match k with | _=>fun _=>[],pre:=fun k=>match k with | _=>fun _=>True}
theorem amb:aq tys_VyB [] [] [] [] 200 Tryz.f85 [.one (.int .i8)] [.one (.int .i8),.one .bool] true [.int .i8] sT_bnot:=⟨by kernel_rfl,by kernel_rfl,by kernel_rfl⟩
theorem alv (cc:Int) (hcc:inK .i8 cc=true) (U:Env) (g:ab U 0 [.int .i8]=[.z cc]):sT_bnot.asks aey (fun U e=>e.D U=rF [.z cc]) U fun _ _=>False:=by
 simp only[ab,varD,thm5,Dt.z.injEq,Dt.l.injEq,b2i_eq_iff,Nat.reduceAdd,and_true] at g
 simp only[sT_bnot,aey,rF,adI,Tr.asks,ah,okDs,okD,eqs,E.I,E.B,E.L,E.R,E.D,E.vs,E.gs,E.ins,E.sv,E.tn,E.iv,E.zs,E.zr,E.sg,E.tg,E.rg,E.rgs,E.pv,Nat.reduceSub,dI,dB,dL,varD,ab,S1,Nat.reduceAdd,-eq_self,ao,ap,ae,af,g]
 constructor<;>intro c0
 ·(unfold gB eR; simp_all<;>omega)
 constructor<;>intro c1
 constructor<;>intro c2
 ·(unfold gB eR; simp_all<;>omega)
 constructor<;>intro c3
 ·(unfold gB eR; simp_all<;>omega)
 constructor<;>intro c4
 ·(unfold gB eR; simp_all<;>omega)
 constructor<;>intro c5
 ·(unfold gB eR; simp_all<;>omega)
 constructor<;>intro c6
 ·(unfold gB eR; simp_all<;>omega)
 constructor<;>intro c7
 ·(unfold gB eR; simp_all<;>omega)
 constructor<;>intro c8
 ·(unfold gB eR; simp_all<;>omega)
 constructor<;>intro c9
 ·(unfold gB eR; simp_all<;>omega)
 constructor<;>intro c10
 ·(unfold gB eR; simp_all<;>omega)
 constructor<;>intro c11
 ·(unfold gB eR; simp_all<;>omega)
 ·(simp_all; omega)
 ·(unfold gB eR; simp_all<;>omega)
theorem amA {sp:Spec} {key:Nat} (hF:sp.F key=rF) (hP:sp.pre key=fun _=>True:=by rfl):SmOk Tryz.prog sp (wV key):=
 av (s:=wV key) hF hP (by kernel_rfl) fI (sm0) Tryz.func85 fn0 amb (.inl rfl) (fun x0 gx0 hp U g=>alv x0 gx0 U g)
def wH (key:Nat):Sm:=⟨79,key,[.one (.el (kN 9 220090000) 39),.agg kTy,.agg kTy],[.agg kTy],false⟩
def adx (x:List (List Int)) (a:Ty) (b:Ty):List Dt:=d_Ty (valu (aa x 0) a b) ([])
def ky:List Dt->List Dt
 | [.l x0,.z x1,.z x2,.z x3,.z x4,.z x5,.z x6,.z x7,.z x8,.z x9,.z x10,.z x11,.z x12,.z x13,.z x14,.z x15,.z x16,.z x17,.z x18]=>adx x0 ⟨x1,x2,x3,x4,x5,x6,x7,x8,x9⟩ ⟨x10,x11,x12,x13,x14,x15,x16,x17,x18⟩
 | _=>[]
def sT_valu:Tr:=
(.br (.lt (.lit 0) (.len (.lvar 0)))
(.br (.eq (.get (.lvar 0) (.lit 0) 1) (.lit 11))
(.br (.eq (.get (.lvar 0) (.lit 0) 2) (.lit 64))
(.leaf (.vs 10 9 .nil))
(.br (.eq (.var 10) (.lit 2))
(.call 2 (kSc) (.cons (.lit 4) .nil) 19
(.leaf (.cons (.lit 1) (.vs 19 6 (.cons (.lit 0) (.cons (.lit 0) .nil))))))
(.br (.eq (.var 10) (.lit 3))
(.call 2 (kSc) (.cons (.lit 4) .nil) 19
(.leaf (.cons (.lit 1) (.vs 19 6 (.cons (.lit 0) (.cons (.lit 0) .nil))))))
(.call 1 (kSc) (.cons (.get (.lvar 0) (.lit 0) 1) (.cons (.get (.lvar 0) (.lit 0) 2) (.vs 11 6 (.vs 11 6 .nil)))) 19
(.leaf (.cons (.lit 1) (.vs 19 6 (.cons (.lit 0) (.cons (.lit 0) .nil)))))))))
(.br (.eq (.get (.lvar 0) (.lit 0) 1) (.lit 8))
(.call 0 (kSc) (.cons (.lit 0) .nil) 19
(.br (.eq (.var 1) (.lit 2))
(.br (.eq (.get (.lvar 0) (.lit 0) 2) (.lit 64))
(.call 3 (kTy) .nil 25
(.leaf (.vs 25 9 .nil)))
(.call 2 (kSc) (.cons (.lit 4) .nil) 25
(.leaf (.cons (.lit 1) (.vs 25 6 (.cons (.lit 0) (.cons (.lit 0) .nil)))))))
(.br (.eq (.var 1) (.lit 3))
(.br (.eq (.get (.lvar 0) (.lit 0) 2) (.lit 64))
(.call 3 (kTy) .nil 25
(.leaf (.vs 25 9 .nil)))
(.call 2 (kSc) (.cons (.lit 4) .nil) 25
(.leaf (.cons (.lit 1) (.vs 25 6 (.cons (.lit 0) (.cons (.lit 0) .nil)))))))
(.call 1 (kSc) (.cons (.get (.lvar 0) (.lit 0) 1) (.cons (.get (.lvar 0) (.lit 0) 2) (.vs 2 6 (.vs 19 6 .nil)))) 25
(.leaf (.cons (.lit 1) (.vs 25 6 (.cons (.lit 0) (.cons (.lit 0) .nil)))))))))
(.br (.eq (.var 1) (.lit 2))
(.br (.eq (.get (.lvar 0) (.lit 0) 2) (.lit 64))
(.br (.eq (.var 10) (.lit 2))
(.call 3 (kTy) .nil 19
(.leaf (.vs 19 9 .nil)))
(.br (.eq (.var 10) (.lit 3))
(.call 3 (kTy) .nil 19
(.leaf (.vs 19 9 .nil)))
(.br (.eq (.get (.lvar 0) (.lit 0) 1) (.lit 0))
(.br (.lt (.var 13) (.lit (-1048576)))
(.call 3 (kTy) .nil 19
(.leaf (.vs 19 9 .nil)))
(.br (.lt (.lit 1048576) (.var 14))
(.call 3 (kTy) .nil 19
(.leaf (.vs 19 9 .nil)))
(.br (.lt (.bin .add .i64 (.var 8) (.var 13)) (.lit (-1048576)))
(.call 3 (kTy) .nil 19
(.leaf (.vs 19 9 .nil)))
(.br (.lt (.lit 1048576) (.bin .add .i64 (.var 8) (.var 13)))
(.call 3 (kTy) .nil 19
(.leaf (.vs 19 9 .nil)))
(.br (.lt (.bin .add .i64 (.var 9) (.var 14)) (.lit (-1048576)))
(.call 3 (kTy) .nil 19
(.leaf (.vs 19 9 .nil)))
(.br (.lt (.lit 1048576) (.bin .add .i64 (.var 9) (.var 14)))
(.call 3 (kTy) .nil 19
(.leaf (.vs 19 9 .nil)))
(.leaf (.vs 1 7 (.cons (.bin .add .i64 (.var 8) (.var 13)) (.cons (.bin .add .i64 (.var 9) (.var 14)) .nil))))))))))
(.br (.eq (.get (.lvar 0) (.lit 0) 1) (.lit 1))
(.br (.lt (.var 13) (.lit (-1048576)))
(.call 3 (kTy) .nil 19
(.leaf (.vs 19 9 .nil)))
(.br (.lt (.lit 1048576) (.var 14))
(.call 3 (kTy) .nil 19
(.leaf (.vs 19 9 .nil)))
(.br (.lt (.bin .add .i64 (.var 8) (.bin .sub .i64 (.lit 0) (.var 14))) (.lit (-1048576)))
(.call 3 (kTy) .nil 19
(.leaf (.vs 19 9 .nil)))
(.br (.lt (.lit 1048576) (.bin .add .i64 (.var 8) (.bin .sub .i64 (.lit 0) (.var 14))))
(.call 3 (kTy) .nil 19
(.leaf (.vs 19 9 .nil)))
(.br (.lt (.bin .add .i64 (.var 9) (.bin .sub .i64 (.lit 0) (.var 13))) (.lit (-1048576)))
(.call 3 (kTy) .nil 19
(.leaf (.vs 19 9 .nil)))
(.br (.lt (.lit 1048576) (.bin .add .i64 (.var 9) (.bin .sub .i64 (.lit 0) (.var 13))))
(.call 3 (kTy) .nil 19
(.leaf (.vs 19 9 .nil)))
(.leaf (.vs 1 7 (.cons (.bin .add .i64 (.var 8) (.bin .sub .i64 (.lit 0) (.var 14))) (.cons (.bin .add .i64 (.var 9) (.bin .sub .i64 (.lit 0) (.var 13))) .nil))))))))))
(.call 3 (kTy) .nil 19
(.leaf (.vs 19 9 .nil)))))))
(.call 2 (kSc) (.cons (.lit 4) .nil) 19
(.leaf (.cons (.lit 1) (.vs 19 6 (.cons (.lit 0) (.cons (.lit 0) .nil)))))))
(.br (.eq (.var 1) (.lit 3))
(.br (.eq (.get (.lvar 0) (.lit 0) 2) (.lit 64))
(.br (.eq (.var 10) (.lit 2))
(.call 3 (kTy) .nil 19
(.leaf (.vs 19 9 .nil)))
(.br (.eq (.var 10) (.lit 3))
(.call 3 (kTy) .nil 19
(.leaf (.vs 19 9 .nil)))
(.br (.eq (.get (.lvar 0) (.lit 0) 1) (.lit 0))
(.br (.lt (.var 13) (.lit (-1048576)))
(.call 3 (kTy) .nil 19
(.leaf (.vs 19 9 .nil)))
(.br (.lt (.lit 1048576) (.var 14))
(.call 3 (kTy) .nil 19
(.leaf (.vs 19 9 .nil)))
(.br (.lt (.bin .add .i64 (.var 8) (.var 13)) (.lit (-1048576)))
(.call 3 (kTy) .nil 19
(.leaf (.vs 19 9 .nil)))
(.br (.lt (.lit 1048576) (.bin .add .i64 (.var 8) (.var 13)))
(.call 3 (kTy) .nil 19
(.leaf (.vs 19 9 .nil)))
(.br (.lt (.bin .add .i64 (.var 9) (.var 14)) (.lit (-1048576)))
(.call 3 (kTy) .nil 19
(.leaf (.vs 19 9 .nil)))
(.br (.lt (.lit 1048576) (.bin .add .i64 (.var 9) (.var 14)))
(.call 3 (kTy) .nil 19
(.leaf (.vs 19 9 .nil)))
(.leaf (.vs 1 7 (.cons (.bin .add .i64 (.var 8) (.var 13)) (.cons (.bin .add .i64 (.var 9) (.var 14)) .nil))))))))))
(.br (.eq (.get (.lvar 0) (.lit 0) 1) (.lit 1))
(.br (.lt (.var 13) (.lit (-1048576)))
(.call 3 (kTy) .nil 19
(.leaf (.vs 19 9 .nil)))
(.br (.lt (.lit 1048576) (.var 14))
(.call 3 (kTy) .nil 19
(.leaf (.vs 19 9 .nil)))
(.br (.lt (.bin .add .i64 (.var 8) (.bin .sub .i64 (.lit 0) (.var 14))) (.lit (-1048576)))
(.call 3 (kTy) .nil 19
(.leaf (.vs 19 9 .nil)))
(.br (.lt (.lit 1048576) (.bin .add .i64 (.var 8) (.bin .sub .i64 (.lit 0) (.var 14))))
(.call 3 (kTy) .nil 19
(.leaf (.vs 19 9 .nil)))
(.br (.lt (.bin .add .i64 (.var 9) (.bin .sub .i64 (.lit 0) (.var 13))) (.lit (-1048576)))
(.call 3 (kTy) .nil 19
(.leaf (.vs 19 9 .nil)))
(.br (.lt (.lit 1048576) (.bin .add .i64 (.var 9) (.bin .sub .i64 (.lit 0) (.var 13))))
(.call 3 (kTy) .nil 19
(.leaf (.vs 19 9 .nil)))
(.leaf (.vs 1 7 (.cons (.bin .add .i64 (.var 8) (.bin .sub .i64 (.lit 0) (.var 14))) (.cons (.bin .add .i64 (.var 9) (.bin .sub .i64 (.lit 0) (.var 13))) .nil))))))))))
(.call 3 (kTy) .nil 19
(.leaf (.vs 19 9 .nil)))))))
(.call 2 (kSc) (.cons (.lit 4) .nil) 19
(.leaf (.cons (.lit 1) (.vs 19 6 (.cons (.lit 0) (.cons (.lit 0) .nil)))))))
(.br (.eq (.var 10) (.lit 2))
(.br (.eq (.get (.lvar 0) (.lit 0) 2) (.lit 64))
(.br (.eq (.get (.lvar 0) (.lit 0) 1) (.lit 0))
(.br (.lt (.var 4) (.lit (-1048576)))
(.call 3 (kTy) .nil 19
(.leaf (.vs 19 9 .nil)))
(.br (.lt (.lit 1048576) (.var 5))
(.call 3 (kTy) .nil 19
(.leaf (.vs 19 9 .nil)))
(.br (.lt (.bin .add .i64 (.var 17) (.var 4)) (.lit (-1048576)))
(.call 3 (kTy) .nil 19
(.leaf (.vs 19 9 .nil)))
(.br (.lt (.lit 1048576) (.bin .add .i64 (.var 17) (.var 4)))
(.call 3 (kTy) .nil 19
(.leaf (.vs 19 9 .nil)))
(.br (.lt (.bin .add .i64 (.var 18) (.var 5)) (.lit (-1048576)))
(.call 3 (kTy) .nil 19
(.leaf (.vs 19 9 .nil)))
(.br (.lt (.lit 1048576) (.bin .add .i64 (.var 18) (.var 5)))
(.call 3 (kTy) .nil 19
(.leaf (.vs 19 9 .nil)))
(.leaf (.vs 10 7 (.cons (.bin .add .i64 (.var 17) (.var 4)) (.cons (.bin .add .i64 (.var 18) (.var 5)) .nil))))))))))
(.call 3 (kTy) .nil 19
(.leaf (.vs 19 9 .nil))))
(.call 2 (kSc) (.cons (.lit 4) .nil) 19
(.leaf (.cons (.lit 1) (.vs 19 6 (.cons (.lit 0) (.cons (.lit 0) .nil)))))))
(.br (.eq (.var 10) (.lit 3))
(.br (.eq (.get (.lvar 0) (.lit 0) 2) (.lit 64))
(.br (.eq (.get (.lvar 0) (.lit 0) 1) (.lit 0))
(.br (.lt (.var 4) (.lit (-1048576)))
(.call 3 (kTy) .nil 19
(.leaf (.vs 19 9 .nil)))
(.br (.lt (.lit 1048576) (.var 5))
(.call 3 (kTy) .nil 19
(.leaf (.vs 19 9 .nil)))
(.br (.lt (.bin .add .i64 (.var 17) (.var 4)) (.lit (-1048576)))
(.call 3 (kTy) .nil 19
(.leaf (.vs 19 9 .nil)))
(.br (.lt (.lit 1048576) (.bin .add .i64 (.var 17) (.var 4)))
(.call 3 (kTy) .nil 19
(.leaf (.vs 19 9 .nil)))
(.br (.lt (.bin .add .i64 (.var 18) (.var 5)) (.lit (-1048576)))
(.call 3 (kTy) .nil 19
(.leaf (.vs 19 9 .nil)))
(.br (.lt (.lit 1048576) (.bin .add .i64 (.var 18) (.var 5)))
(.call 3 (kTy) .nil 19
(.leaf (.vs 19 9 .nil)))
(.leaf (.vs 10 7 (.cons (.bin .add .i64 (.var 17) (.var 4)) (.cons (.bin .add .i64 (.var 18) (.var 5)) .nil))))))))))
(.call 3 (kTy) .nil 19
(.leaf (.vs 19 9 .nil))))
(.call 2 (kSc) (.cons (.lit 4) .nil) 19
(.leaf (.cons (.lit 1) (.vs 19 6 (.cons (.lit 0) (.cons (.lit 0) .nil)))))))
(.call 1 (kSc) (.cons (.get (.lvar 0) (.lit 0) 1) (.cons (.get (.lvar 0) (.lit 0) 2) (.vs 2 6 (.vs 11 6 .nil)))) 19
(.leaf (.cons (.lit 1) (.vs 19 6 (.cons (.lit 0) (.cons (.lit 0) .nil))))))))))))
(.stuck 54))
def ad7:Spec:={F:=fun k=>match k with | 0=>dg | 1=>uu | 2=>hC | 3=>cp | _=>fun _=>[],pre:=fun k=>match k with | _=>fun _=>True}
theorem alK:aq tys_VyB [kt 0,aeA 1,uj 2,eZ 3] [(53,Tryz.f53,[],[]),(78,Tryz.f78,[],[]),(144,Tryz.f144,[],[]),(55,Tryz.f55,[],[])] [(999997,[])] [] 200 Tryz.f79 [.one (.el (kN 9 220090000) 39),.agg kTy,.agg kTy] [.agg kTy] false (.list (kN 9 220090000)::(v_Ty (v_Ty ([])))) sT_valu:=⟨by kernel_rfl,by kernel_rfl,by kernel_rfl⟩
def mP:List Dt->Prop
 | [.l x0,.z x1,.z x2,.z x3,.z x4,.z x5,.z x6,.z x7,.z x8,.z x9,.z x10,.z x11,.z x12,.z x13,.z x14,.z x15,.z x16,.z x17,.z x18]=>let f (x:List (List Int)) (a:Ty) (b:Ty):Prop:=x.length=1; f x0 ⟨x1,x2,x3,x4,x5,x6,x7,x8,x9⟩ ⟨x10,x11,x12,x13,x14,x15,x16,x17,x18⟩
 | _=>False
theorem ak2 (x:List (List Int)) (hx:RowsIn (kN 9 220090000) x) (a:Ty) (ha:Ty.ok a) (b:Ty) (hb:Ty.ok b) (hp:mP (.l x::(d_Ty a (d_Ty b ([]))))) (U:Env) (g:ab U 0 (.list (kN 9 220090000)::(v_Ty (v_Ty ([]))))=(.l x::(d_Ty a (d_Ty b ([]))))):sT_valu.asks ad7 (fun U e=>e.D U=ky (.l x::(d_Ty a (d_Ty b ([]))))) U fun _ _=>False:=by
 simp only[mP,d_Ty,b2i_one,ao,ap,ae,af] at hp
 simp only[d_Ty,v_Ty,ab,varD,thm5,Dt.z.injEq,Dt.l.injEq,b2i_eq_iff,Nat.reduceAdd,and_true] at g
 simp only[sT_valu,ad7,d_Ty,kSc,kTy,dg,uu,hC,cp,mw,adw,yu,ky,adx,Tr.asks,ah,okDs,okD,eqs,E.I,E.B,E.L,E.R,E.D,E.vs,E.gs,E.ins,E.sv,E.tn,E.iv,E.zs,E.zr,E.sg,E.tg,E.rg,E.rgs,E.pv,Nat.reduceSub,dI,dB,dL,varD,ab,S1,Nat.reduceAdd,-eq_self,ao,ap,ae,af,g]
 constructor<;>intro c0
 constructor<;>intro c1
 constructor<;>intro c2
 ·rw[va_m c1 c2]; try rfl
 constructor<;>intro c3
 intro e; (try simp only[e,ao,ap,ae,af,-eq_self]); clear e
 ·rw[va_o c1 c2,of_2 (op:=(aa x 0).op) (w:=(aa x 0).w) (.inl (pT c3)) c2]; try rfl
 constructor<;>intro c4
 intro e; (try simp only[e,ao,ap,ae,af,-eq_self]); clear e
 ·rw[va_o c1 c2,of_2 (op:=(aa x 0).op) (w:=(aa x 0).w) (.inl (pU c4)) c2]; try rfl
 intro e; (try simp only[e,ao,ap,ae,af,-eq_self]); clear e
 ·rw[va_o c1 c2,of_1 (op:=(aa x 0).op) (w:=(aa x 0).w) (pF c3 c4) (pF c3 c4)]; try rfl
 constructor<;>intro c5
 intro e; (try simp only[e,ao,ap,ae,af,-eq_self]); clear e
 constructor<;>intro c6
 constructor<;>intro c7
 intro e; (try simp only[e,ao,ap,ae,af,-eq_self]); clear e
 ·rw[va_n c1 c5,of_8 (op:=(aa x 0).op) (w:=(aa x 0).w) (pT c6) c7 c5]; try rfl
 intro e; (try simp only[e,ao,ap,ae,af,-eq_self]); clear e
 ·rw[va_n c1 c5,of_2 (op:=(aa x 0).op) (w:=(aa x 0).w) (.inl (pT c6)) c7]; try rfl
 constructor<;>intro c8
 constructor<;>intro c9
 intro e; (try simp only[e,ao,ap,ae,af,-eq_self]); clear e
 ·rw[va_n c1 c5,of_8 (op:=(aa x 0).op) (w:=(aa x 0).w) (pU c8) c9 c5]; try rfl
 intro e; (try simp only[e,ao,ap,ae,af,-eq_self]); clear e
 ·rw[va_n c1 c5,of_2 (op:=(aa x 0).op) (w:=(aa x 0).w) (.inl (pU c8)) c9]; try rfl
 intro e; (try simp only[e,ao,ap,ae,af,-eq_self]); clear e
 ·rw[va_n c1 c5,of_1 (op:=(aa x 0).op) (w:=(aa x 0).w) (pF c6 c8) rfl]; try rfl
 constructor<;>intro c10
 constructor<;>intro c11
 constructor<;>intro c12
 intro e; (try simp only[e,ao,ap,ae,af,-eq_self]); clear e
 ·rw[va_e c1 c5,of_5 (op:=(aa x 0).op) (w:=(aa x 0).w) (pT c10) (pT c12) c11]; try rfl
 constructor<;>intro c13
 intro e; (try simp only[e,ao,ap,ae,af,-eq_self]); clear e
 ·rw[va_e c1 c5,of_5 (op:=(aa x 0).op) (w:=(aa x 0).w) (pT c10) (pU c13) c11]; try rfl
 constructor<;>intro c14
 constructor<;>intro c15
 intro e; (try simp only[e,ao,ap,ae,af,-eq_self]); clear e
 ·rw[va_e c1 c5,of_3 (op:=(aa x 0).op) (w:=(aa x 0).w) (pT c10) (pF c12 c13) c11 (.inl (eqI c14)),show((aa x 0).op==1)=false by rw[show(aa x 0).op=0 from eqI c14]; rfl,bU (t:=a) (s:=b.s) (b:=false) (.inl (thm3 c15))]; try rfl
 constructor<;>intro c16
 intro e; (try simp only[e,ao,ap,ae,af,-eq_self]); clear e
 ·rw[va_e c1 c5,of_3 (op:=(aa x 0).op) (w:=(aa x 0).w) (pT c10) (pF c12 c13) c11 (.inl (eqI c14)),show((aa x 0).op==1)=false by rw[show(aa x 0).op=0 from eqI c14]; rfl,bU (t:=a) (s:=b.s) (b:=false) (.inr (.inl (thm3 c16)))]; try rfl
 constructor<;>intro c17
 intro e; (try simp only[e,ao,ap,ae,af,-eq_self]); clear e
 ·rw[va_e c1 c5,of_3 (op:=(aa x 0).op) (w:=(aa x 0).w) (pT c10) (pF c12 c13) c11 (.inl (eqI c14)),show((aa x 0).op==1)=false by rw[show(aa x 0).op=0 from eqI c14]; rfl,bU (t:=a) (s:=b.s) (b:=false) (.inr (.inr (.inl (thm3 c17))))]; try rfl
 constructor<;>intro c18
 intro e; (try simp only[e,ao,ap,ae,af,-eq_self]); clear e
 ·rw[va_e c1 c5,of_3 (op:=(aa x 0).op) (w:=(aa x 0).w) (pT c10) (pF c12 c13) c11 (.inl (eqI c14)),show((aa x 0).op==1)=false by rw[show(aa x 0).op=0 from eqI c14]; rfl,bU (t:=a) (s:=b.s) (b:=false) (.inr (.inr (.inr (.inl (thm3 c18)))))]; try rfl
 constructor<;>intro c19
 intro e; (try simp only[e,ao,ap,ae,af,-eq_self]); clear e
 ·rw[va_e c1 c5,of_3 (op:=(aa x 0).op) (w:=(aa x 0).w) (pT c10) (pF c12 c13) c11 (.inl (eqI c14)),show((aa x 0).op==1)=false by rw[show(aa x 0).op=0 from eqI c14]; rfl,bU (t:=a) (s:=b.s) (b:=false) (.inr (.inr (.inr (.inr (.inl (thm3 c19))))))]; try rfl
 constructor<;>intro c20
 intro e; (try simp only[e,ao,ap,ae,af,-eq_self]); clear e
 ·rw[va_e c1 c5,of_3 (op:=(aa x 0).op) (w:=(aa x 0).w) (pT c10) (pF c12 c13) c11 (.inl (eqI c14)),show((aa x 0).op==1)=false by rw[show(aa x 0).op=0 from eqI c14]; rfl,bU (t:=a) (s:=b.s) (b:=false) (.inr (.inr (.inr (.inr (.inr ((thm3 c20)))))))]; try rfl
 ·rw[va_e c1 c5,of_3 (op:=(aa x 0).op) (w:=(aa x 0).w) (pT c10) (pF c12 c13) c11 (.inl (eqI c14)),show((aa x 0).op==1)=false by rw[show(aa x 0).op=0 from eqI c14]; rfl,pq (t:=a) (s:=b.s) (b:=false) (thm2 c15) (thm2 c16) (thm2 c17) (thm2 c18) (thm2 c19) (thm2 c20)]; try rfl
 constructor<;>intro c21
 constructor<;>intro c22
 intro e; (try simp only[e,ao,ap,ae,af,-eq_self]); clear e
 ·rw[va_e c1 c5,of_3 (op:=(aa x 0).op) (w:=(aa x 0).w) (pT c10) (pF c12 c13) c11 (.inr (eqI c21)),show((aa x 0).op==1)=true from c21,bU (t:=a) (s:=b.s) (b:=true) (.inl (thm3 c22))]; try rfl
 constructor<;>intro c23
 intro e; (try simp only[e,ao,ap,ae,af,-eq_self]); clear e
 ·rw[va_e c1 c5,of_3 (op:=(aa x 0).op) (w:=(aa x 0).w) (pT c10) (pF c12 c13) c11 (.inr (eqI c21)),show((aa x 0).op==1)=true from c21,bU (t:=a) (s:=b.s) (b:=true) (.inr (.inl (thm3 c23)))]; try rfl
 constructor<;>intro c24
 intro e; (try simp only[e,ao,ap,ae,af,-eq_self]); clear e
 ·rw[va_e c1 c5,of_3 (op:=(aa x 0).op) (w:=(aa x 0).w) (pT c10) (pF c12 c13) c11 (.inr (eqI c21)),show((aa x 0).op==1)=true from c21,bU (t:=a) (s:=b.s) (b:=true) (.inr (.inr (.inl (thm3 c24))))]; try rfl
 constructor<;>intro c25
 intro e; (try simp only[e,ao,ap,ae,af,-eq_self]); clear e
 ·rw[va_e c1 c5,of_3 (op:=(aa x 0).op) (w:=(aa x 0).w) (pT c10) (pF c12 c13) c11 (.inr (eqI c21)),show((aa x 0).op==1)=true from c21,bU (t:=a) (s:=b.s) (b:=true) (.inr (.inr (.inr (.inl (thm3 c25)))))]; try rfl
 constructor<;>intro c26
 intro e; (try simp only[e,ao,ap,ae,af,-eq_self]); clear e
 ·rw[va_e c1 c5,of_3 (op:=(aa x 0).op) (w:=(aa x 0).w) (pT c10) (pF c12 c13) c11 (.inr (eqI c21)),show((aa x 0).op==1)=true from c21,bU (t:=a) (s:=b.s) (b:=true) (.inr (.inr (.inr (.inr (.inl (thm3 c26))))))]; try rfl
 constructor<;>intro c27
 intro e; (try simp only[e,ao,ap,ae,af,-eq_self]); clear e
 ·rw[va_e c1 c5,of_3 (op:=(aa x 0).op) (w:=(aa x 0).w) (pT c10) (pF c12 c13) c11 (.inr (eqI c21)),show((aa x 0).op==1)=true from c21,bU (t:=a) (s:=b.s) (b:=true) (.inr (.inr (.inr (.inr (.inr ((thm3 c27)))))))]; try rfl
 ·rw[va_e c1 c5,of_3 (op:=(aa x 0).op) (w:=(aa x 0).w) (pT c10) (pF c12 c13) c11 (.inr (eqI c21)),show((aa x 0).op==1)=true from c21,pq (t:=a) (s:=b.s) (b:=true) (thm2 c22) (thm2 c23) (thm2 c24) (thm2 c25) (thm2 c26) (thm2 c27)]; try rfl
 intro e; (try simp only[e,ao,ap,ae,af,-eq_self]); clear e
 ·rw[va_e c1 c5,of_6 (op:=(aa x 0).op) (w:=(aa x 0).w) (pT c10) c11 c14 c21]; try rfl
 intro e; (try simp only[e,ao,ap,ae,af,-eq_self]); clear e
 ·rw[va_e c1 c5,of_2 (op:=(aa x 0).op) (w:=(aa x 0).w) (.inl (pT c10)) c11]; try rfl
 constructor<;>intro c28
 constructor<;>intro c29
 constructor<;>intro c30
 intro e; (try simp only[e,ao,ap,ae,af,-eq_self]); clear e
 ·rw[va_e c1 c5,of_5 (op:=(aa x 0).op) (w:=(aa x 0).w) (pU c28) (pT c30) c29]; try rfl
 constructor<;>intro c31
 intro e; (try simp only[e,ao,ap,ae,af,-eq_self]); clear e
 ·rw[va_e c1 c5,of_5 (op:=(aa x 0).op) (w:=(aa x 0).w) (pU c28) (pU c31) c29]; try rfl
 constructor<;>intro c32
 constructor<;>intro c33
 intro e; (try simp only[e,ao,ap,ae,af,-eq_self]); clear e
 ·rw[va_e c1 c5,of_3 (op:=(aa x 0).op) (w:=(aa x 0).w) (pU c28) (pF c30 c31) c29 (.inl (eqI c32)),show((aa x 0).op==1)=false by rw[show(aa x 0).op=0 from eqI c32]; rfl,bU (t:=a) (s:=b.s) (b:=false) (.inl (thm3 c33))]; try rfl
 constructor<;>intro c34
 intro e; (try simp only[e,ao,ap,ae,af,-eq_self]); clear e
 ·rw[va_e c1 c5,of_3 (op:=(aa x 0).op) (w:=(aa x 0).w) (pU c28) (pF c30 c31) c29 (.inl (eqI c32)),show((aa x 0).op==1)=false by rw[show(aa x 0).op=0 from eqI c32]; rfl,bU (t:=a) (s:=b.s) (b:=false) (.inr (.inl (thm3 c34)))]; try rfl
 constructor<;>intro c35
 intro e; (try simp only[e,ao,ap,ae,af,-eq_self]); clear e
 ·rw[va_e c1 c5,of_3 (op:=(aa x 0).op) (w:=(aa x 0).w) (pU c28) (pF c30 c31) c29 (.inl (eqI c32)),show((aa x 0).op==1)=false by rw[show(aa x 0).op=0 from eqI c32]; rfl,bU (t:=a) (s:=b.s) (b:=false) (.inr (.inr (.inl (thm3 c35))))]; try rfl
 constructor<;>intro c36
 intro e; (try simp only[e,ao,ap,ae,af,-eq_self]); clear e
 ·rw[va_e c1 c5,of_3 (op:=(aa x 0).op) (w:=(aa x 0).w) (pU c28) (pF c30 c31) c29 (.inl (eqI c32)),show((aa x 0).op==1)=false by rw[show(aa x 0).op=0 from eqI c32]; rfl,bU (t:=a) (s:=b.s) (b:=false) (.inr (.inr (.inr (.inl (thm3 c36)))))]; try rfl
 constructor<;>intro c37
 intro e; (try simp only[e,ao,ap,ae,af,-eq_self]); clear e
 ·rw[va_e c1 c5,of_3 (op:=(aa x 0).op) (w:=(aa x 0).w) (pU c28) (pF c30 c31) c29 (.inl (eqI c32)),show((aa x 0).op==1)=false by rw[show(aa x 0).op=0 from eqI c32]; rfl,bU (t:=a) (s:=b.s) (b:=false) (.inr (.inr (.inr (.inr (.inl (thm3 c37))))))]; try rfl
 constructor<;>intro c38
 intro e; (try simp only[e,ao,ap,ae,af,-eq_self]); clear e
 ·rw[va_e c1 c5,of_3 (op:=(aa x 0).op) (w:=(aa x 0).w) (pU c28) (pF c30 c31) c29 (.inl (eqI c32)),show((aa x 0).op==1)=false by rw[show(aa x 0).op=0 from eqI c32]; rfl,bU (t:=a) (s:=b.s) (b:=false) (.inr (.inr (.inr (.inr (.inr ((thm3 c38)))))))]; try rfl
 ·rw[va_e c1 c5,of_3 (op:=(aa x 0).op) (w:=(aa x 0).w) (pU c28) (pF c30 c31) c29 (.inl (eqI c32)),show((aa x 0).op==1)=false by rw[show(aa x 0).op=0 from eqI c32]; rfl,pq (t:=a) (s:=b.s) (b:=false) (thm2 c33) (thm2 c34) (thm2 c35) (thm2 c36) (thm2 c37) (thm2 c38)]; try rfl
 constructor<;>intro c39
 constructor<;>intro c40
 intro e; (try simp only[e,ao,ap,ae,af,-eq_self]); clear e
 ·rw[va_e c1 c5,of_3 (op:=(aa x 0).op) (w:=(aa x 0).w) (pU c28) (pF c30 c31) c29 (.inr (eqI c39)),show((aa x 0).op==1)=true from c39,bU (t:=a) (s:=b.s) (b:=true) (.inl (thm3 c40))]; try rfl
 constructor<;>intro c41
 intro e; (try simp only[e,ao,ap,ae,af,-eq_self]); clear e
 ·rw[va_e c1 c5,of_3 (op:=(aa x 0).op) (w:=(aa x 0).w) (pU c28) (pF c30 c31) c29 (.inr (eqI c39)),show((aa x 0).op==1)=true from c39,bU (t:=a) (s:=b.s) (b:=true) (.inr (.inl (thm3 c41)))]; try rfl
 constructor<;>intro c42
 intro e; (try simp only[e,ao,ap,ae,af,-eq_self]); clear e
 ·rw[va_e c1 c5,of_3 (op:=(aa x 0).op) (w:=(aa x 0).w) (pU c28) (pF c30 c31) c29 (.inr (eqI c39)),show((aa x 0).op==1)=true from c39,bU (t:=a) (s:=b.s) (b:=true) (.inr (.inr (.inl (thm3 c42))))]; try rfl
 constructor<;>intro c43
 intro e; (try simp only[e,ao,ap,ae,af,-eq_self]); clear e
 ·rw[va_e c1 c5,of_3 (op:=(aa x 0).op) (w:=(aa x 0).w) (pU c28) (pF c30 c31) c29 (.inr (eqI c39)),show((aa x 0).op==1)=true from c39,bU (t:=a) (s:=b.s) (b:=true) (.inr (.inr (.inr (.inl (thm3 c43)))))]; try rfl
 constructor<;>intro c44
 intro e; (try simp only[e,ao,ap,ae,af,-eq_self]); clear e
 ·rw[va_e c1 c5,of_3 (op:=(aa x 0).op) (w:=(aa x 0).w) (pU c28) (pF c30 c31) c29 (.inr (eqI c39)),show((aa x 0).op==1)=true from c39,bU (t:=a) (s:=b.s) (b:=true) (.inr (.inr (.inr (.inr (.inl (thm3 c44))))))]; try rfl
 constructor<;>intro c45
 intro e; (try simp only[e,ao,ap,ae,af,-eq_self]); clear e
 ·rw[va_e c1 c5,of_3 (op:=(aa x 0).op) (w:=(aa x 0).w) (pU c28) (pF c30 c31) c29 (.inr (eqI c39)),show((aa x 0).op==1)=true from c39,bU (t:=a) (s:=b.s) (b:=true) (.inr (.inr (.inr (.inr (.inr ((thm3 c45)))))))]; try rfl
 ·rw[va_e c1 c5,of_3 (op:=(aa x 0).op) (w:=(aa x 0).w) (pU c28) (pF c30 c31) c29 (.inr (eqI c39)),show((aa x 0).op==1)=true from c39,pq (t:=a) (s:=b.s) (b:=true) (thm2 c40) (thm2 c41) (thm2 c42) (thm2 c43) (thm2 c44) (thm2 c45)]; try rfl
 intro e; (try simp only[e,ao,ap,ae,af,-eq_self]); clear e
 ·rw[va_e c1 c5,of_6 (op:=(aa x 0).op) (w:=(aa x 0).w) (pU c28) c29 c32 c39]; try rfl
 intro e; (try simp only[e,ao,ap,ae,af,-eq_self]); clear e
 ·rw[va_e c1 c5,of_2 (op:=(aa x 0).op) (w:=(aa x 0).w) (.inl (pU c28)) c29]; try rfl
 constructor<;>intro c46
 constructor<;>intro c47
 constructor<;>intro c48
 constructor<;>intro c49
 intro e; (try simp only[e,ao,ap,ae,af,-eq_self]); clear e
 ·rw[va_e c1 c5,of_4 (op:=(aa x 0).op) (w:=(aa x 0).w) (pF c10 c28) (pT c46) c47 c48,bU (t:=b) (s:=a.s) (b:=false) (.inl (thm3 c49))]; try rfl
 constructor<;>intro c50
 intro e; (try simp only[e,ao,ap,ae,af,-eq_self]); clear e
 ·rw[va_e c1 c5,of_4 (op:=(aa x 0).op) (w:=(aa x 0).w) (pF c10 c28) (pT c46) c47 c48,bU (t:=b) (s:=a.s) (b:=false) (.inr (.inl (thm3 c50)))]; try rfl
 constructor<;>intro c51
 intro e; (try simp only[e,ao,ap,ae,af,-eq_self]); clear e
 ·rw[va_e c1 c5,of_4 (op:=(aa x 0).op) (w:=(aa x 0).w) (pF c10 c28) (pT c46) c47 c48,bU (t:=b) (s:=a.s) (b:=false) (.inr (.inr (.inl (thm3 c51))))]; try rfl
 constructor<;>intro c52
 intro e; (try simp only[e,ao,ap,ae,af,-eq_self]); clear e
 ·rw[va_e c1 c5,of_4 (op:=(aa x 0).op) (w:=(aa x 0).w) (pF c10 c28) (pT c46) c47 c48,bU (t:=b) (s:=a.s) (b:=false) (.inr (.inr (.inr (.inl (thm3 c52)))))]; try rfl
 constructor<;>intro c53
 intro e; (try simp only[e,ao,ap,ae,af,-eq_self]); clear e
 ·rw[va_e c1 c5,of_4 (op:=(aa x 0).op) (w:=(aa x 0).w) (pF c10 c28) (pT c46) c47 c48,bU (t:=b) (s:=a.s) (b:=false) (.inr (.inr (.inr (.inr (.inl (thm3 c53))))))]; try rfl
 constructor<;>intro c54
 intro e; (try simp only[e,ao,ap,ae,af,-eq_self]); clear e
 ·rw[va_e c1 c5,of_4 (op:=(aa x 0).op) (w:=(aa x 0).w) (pF c10 c28) (pT c46) c47 c48,bU (t:=b) (s:=a.s) (b:=false) (.inr (.inr (.inr (.inr (.inr ((thm3 c54)))))))]; try rfl
 ·rw[va_e c1 c5,of_4 (op:=(aa x 0).op) (w:=(aa x 0).w) (pF c10 c28) (pT c46) c47 c48,pq (t:=b) (s:=a.s) (b:=false) (thm2 c49) (thm2 c50) (thm2 c51) (thm2 c52) (thm2 c53) (thm2 c54)]; try rfl
 intro e; (try simp only[e,ao,ap,ae,af,-eq_self]); clear e
 ·rw[va_e c1 c5,of_7 (op:=(aa x 0).op) (w:=(aa x 0).w) (pT c46) c47 c48]; try rfl
 intro e; (try simp only[e,ao,ap,ae,af,-eq_self]); clear e
 ·rw[va_e c1 c5,of_2 (op:=(aa x 0).op) (w:=(aa x 0).w) (.inr (pT c46)) c47]; try rfl
 constructor<;>intro c55
 constructor<;>intro c56
 constructor<;>intro c57
 constructor<;>intro c58
 intro e; (try simp only[e,ao,ap,ae,af,-eq_self]); clear e
 ·rw[va_e c1 c5,of_4 (op:=(aa x 0).op) (w:=(aa x 0).w) (pF c10 c28) (pU c55) c56 c57,bU (t:=b) (s:=a.s) (b:=false) (.inl (thm3 c58))]; try rfl
 constructor<;>intro c59
 intro e; (try simp only[e,ao,ap,ae,af,-eq_self]); clear e
 ·rw[va_e c1 c5,of_4 (op:=(aa x 0).op) (w:=(aa x 0).w) (pF c10 c28) (pU c55) c56 c57,bU (t:=b) (s:=a.s) (b:=false) (.inr (.inl (thm3 c59)))]; try rfl
 constructor<;>intro c60
 intro e; (try simp only[e,ao,ap,ae,af,-eq_self]); clear e
 ·rw[va_e c1 c5,of_4 (op:=(aa x 0).op) (w:=(aa x 0).w) (pF c10 c28) (pU c55) c56 c57,bU (t:=b) (s:=a.s) (b:=false) (.inr (.inr (.inl (thm3 c60))))]; try rfl
 constructor<;>intro c61
 intro e; (try simp only[e,ao,ap,ae,af,-eq_self]); clear e
 ·rw[va_e c1 c5,of_4 (op:=(aa x 0).op) (w:=(aa x 0).w) (pF c10 c28) (pU c55) c56 c57,bU (t:=b) (s:=a.s) (b:=false) (.inr (.inr (.inr (.inl (thm3 c61)))))]; try rfl
 constructor<;>intro c62
 intro e; (try simp only[e,ao,ap,ae,af,-eq_self]); clear e
 ·rw[va_e c1 c5,of_4 (op:=(aa x 0).op) (w:=(aa x 0).w) (pF c10 c28) (pU c55) c56 c57,bU (t:=b) (s:=a.s) (b:=false) (.inr (.inr (.inr (.inr (.inl (thm3 c62))))))]; try rfl
 constructor<;>intro c63
 intro e; (try simp only[e,ao,ap,ae,af,-eq_self]); clear e
 ·rw[va_e c1 c5,of_4 (op:=(aa x 0).op) (w:=(aa x 0).w) (pF c10 c28) (pU c55) c56 c57,bU (t:=b) (s:=a.s) (b:=false) (.inr (.inr (.inr (.inr (.inr ((thm3 c63)))))))]; try rfl
 ·rw[va_e c1 c5,of_4 (op:=(aa x 0).op) (w:=(aa x 0).w) (pF c10 c28) (pU c55) c56 c57,pq (t:=b) (s:=a.s) (b:=false) (thm2 c58) (thm2 c59) (thm2 c60) (thm2 c61) (thm2 c62) (thm2 c63)]; try rfl
 intro e; (try simp only[e,ao,ap,ae,af,-eq_self]); clear e
 ·rw[va_e c1 c5,of_7 (op:=(aa x 0).op) (w:=(aa x 0).w) (pU c55) c56 c57]; try rfl
 intro e; (try simp only[e,ao,ap,ae,af,-eq_self]); clear e
 ·rw[va_e c1 c5,of_2 (op:=(aa x 0).op) (w:=(aa x 0).w) (.inr (pU c55)) c56]; try rfl
 intro e; (try simp only[e,ao,ap,ae,af,-eq_self]); clear e
 ·rw[va_e c1 c5,of_1 (op:=(aa x 0).op) (w:=(aa x 0).w) (pF c10 c28) (pF c46 c55)]; try rfl
 ·(rw[hp] at c0; simp at c0)
theorem amn {sp:Spec} {key:Nat} (hF:sp.F key=ky) (hP:sp.pre key=mP):SmOk Tryz.prog sp (wH key):=
 av (s:=wH key) hF hP (by kernel_rfl) fI (smc (rD rfl) (smc (aoK rfl) (smc (aeK rfl) (smc (ji rfl) sm0)))) Tryz.func79 (fnc Tryz.func53 (fnc Tryz.func78 (fnc Tryz.func144 (fnc Tryz.func55 fn0)))) alK (.inr (.inl ⟨(fun xs h L hL=>by unfold mP at h; split at h<;>first | exact h.elim | (simp at hL; subst hL; rw[h]; unfold maxLen; omega)),rfl⟩)) (fun x0 gx0=>bj fun q2 gq2=>bj fun q3 gq3=>fun hp U g=>ak2 x0 gx0 q2 gq2 q3 gq3 hp U g)
end Go.Proofs.YtfkhblmeioiciaaGreatDoor
