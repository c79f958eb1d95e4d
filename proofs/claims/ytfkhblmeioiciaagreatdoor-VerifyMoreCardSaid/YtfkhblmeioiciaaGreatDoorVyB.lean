import Derived.Test.YtfkhblmeioiciaaGreatDoorVyA
import Derived.Test.YtfkhblmeioiciaaGreatDoorVaC
import Derived.Test.YtfkhblmeioiciaaGreatDoorSdB
import Derived.Test.YtfkhblmeioiciaaGreatDoorLiC
import Derived.Test.YtfkhblmeioiciaaGreatDoorTzA
import Derived.Test.YtfkhblmeioiciaaGreatDoorProg
import Derived.Laws.Externs
set_option maxRecDepth 100000
set_option maxHeartbeats 8000000
set_option linter.defProp false
set_option linter.unusedVariables false
set_option linter.unusedSimpArgs false
namespace Go.Proofs.YtfkhblmeioiciaaGreatDoor
open Go.RowKit Go.ChangeShapes Go.WideShapes
def tys_VyB:List (Nat×TI):=[(2,tiq2),
 (3,tiq3),
 (4,tiq4),
 (37,ig),
 (39,aaW),
 (42,fP),
 (44,ic),
 (46,kD),
 (48,dW),
 (50,tO),
 (70,apd),
 (105,yC),
 (167,aj7),
 (189,⟨true,10,(zN 10 0),[],some (10,37),none,false,false,none,10,false,none,false,0⟩)]
theorem acM:(tys_VyB.all fun p=>ckTI Tryz.prog p.1 p.2)=true:=by kernel_rfl
theorem tD:(tys_VyB.all fun p=>!p.2.eqok||((Nat.beq p.1 39&&aX p.2.zero oY)||(Nat.beq p.1 48&&aX p.2.zero z_Sc)||(Nat.beq p.1 50&&aX p.2.zero z_Ty)))=true:=by kernel_rfl
theorem acs:(tys_VyB.all fun p=>!p.2.keyok)=true:=by kernel_rfl
theorem fU:∀t i,(t,i)∈tys_VyB->TIok Tryz.prog t i:=by
 intro t i h
 refine bE (cC (f:=ckTI Tryz.prog) acM h) (fun he=> ?_) (fun he=> ?_) (fun he=> ?_)
 ·have h1:=thm7.1 tD (t,i) h
  simp only[he,Bool.not_true,Bool.false_or,bG,thm0] at h1
  rcases h1 with(h1 | h1) | h1
  ·have hs:=h1.2
   obtain rfl:=thm1 h1.1
   exact fun vs us hv hu=>pV vs us (ar hs hv) (ar hs hu)
  ·have hs:=h1.2
   obtain rfl:=thm1 h1.1
   exact fun vs us hv hu=>vK vs us (ar hs hv) (ar hs hu)
  ·have hs:=h1.2
   obtain rfl:=thm1 h1.1
   exact fun vs us hv hu=>vJ vs us (ar hs hv) (ar hs hu)
 ·have h1:=thm7.1 tD (t,i) h
  simp only[he,Bool.not_true,Bool.false_or,bG,thm0] at h1
  rcases h1 with(h1 | h1) | h1
  ·have hs:=h1.2
   obtain rfl:=thm1 h1.1
   exact lc
  ·have hs:=h1.2
   obtain rfl:=thm1 h1.1
   exact lN
  ·have hs:=h1.2
   obtain rfl:=thm1 h1.1
   exact lM
 ·have h1:=thm7.1 acs (t,i) h
  simp[he] at h1
def xd (key:Nat):Sm:=⟨145,key,[.one (.int .i64)],[.agg kSc],false⟩
def wG (n:Int):List Dt:=[.z ((vbel (opI .shr .u64 18446744073709551615 (opI .sub .i64 64 n))).ul),.z ((vbel (opI .shr .u64 18446744073709551615 (opI .sub .i64 64 n))).uh),.z ((vbel (opI .shr .u64 18446744073709551615 (opI .sub .i64 64 n))).sl),.z ((vbel (opI .shr .u64 18446744073709551615 (opI .sub .i64 64 n))).sh),.z ((vbel (opI .shr .u64 18446744073709551615 (opI .sub .i64 64 n))).v),.z ((vbel (opI .shr .u64 18446744073709551615 (opI .sub .i64 64 n))).m)]
def nL:List Dt->List Dt
 | [.z x0]=>wG x0
 | _=>[]
def ali:E:=(.bin .shr .u64 (.lit 18446744073709551615) (.bin .sub .i64 (.lit 64) (.var 0)))
def sT_vbel:Tr:=
(.br (.lt (.bin .sub .i64 (.lit 64) (.var 0)) (.lit 0))
.panic
(.call 0 (kRg) .nil 1
(.call 1 (kSc) (.cons (.var 1) (.cons ali (.vs 3 2 (.cons (.lit 0) (.cons ali .nil))))) 5
(.leaf (.vs 5 6 .nil)))))
def aev:Spec:={F:=fun k=>match k with | 0=>bv | 1=>bH | _=>fun _=>[],pre:=fun _ _=>True}
theorem am3:ap tys_VyB [dH 0,eb 1] [] [] [] 200 Tryz.f145 [.one (.int .i64)] [.agg kSc] false [.int .i64] sT_vbel:=⟨by kernel_rfl,by kernel_rfl,by kernel_rfl⟩
def mZ:List Dt->Prop
 | [.z x0]=>let f (n:Int):Prop:= -64<=n/\n<=64;f x0
 | _=>False
def ao:=And.intro Prog.eta (Ins.eta)
theorem amn (n:Int) (hn:inK .i64 n=true) (hp:mZ [.z n]) (U:Env) (g:varsD U 0 [.int .i64]=[.z n]):sT_vbel.asks aev (fun U e=>e.D U=nL [.z n]) U fun _ _=>False:=by
 simp only[mZ,b2i_one,am,ao,ab,ae] at hp
 simp only[varsD,varD,thm5,gS0,Nat.reduceAdd,and_true] at g
 simp only[sT_vbel,ali,aev,kRg,kSc,bv,bH,dZ,nL,wG,simQ,af,S1,Nat.reduceSub,Nat.reduceAdd,-eq_self,am,ao,ab,ae,g]
 constructor<;>intro c0
 ·(have h:IntKind.i64.wrap (64-n)<0:=thm3 c0;have gn:=fF hn;rw[aR] at h;omega)
 intro e;(try simp only[e,am,ao,ab,ae,-eq_self]);clear e
 intro e;(try simp only[e,am,ao,ab,ae,-eq_self]);clear e
 ·rfl
theorem anI {sp:Spec} {key:Nat} (hF:sp.F key=nL) (hP:sp.pre key=mZ):SmOk Tryz.prog sp (xd key):=
 au (s:=xd key) hF hP (by kernel_rfl) fU (smc (eU rfl) (smc (gS rfl) sm0)) Tryz.func145 fn0 am3 (.inl rfl) (fun x0 gx0 hp U g=>amn x0 gx0 hp U g)
def uK (key:Nat):Sm:=⟨81,key,[.one (.int .i64)],[.agg kSc],false⟩
def yS (q:Int):List Dt:=[.z ((vbyt q).ul),.z ((vbyt q).uh),.z ((vbyt q).sl),.z ((vbyt q).sh),.z ((vbyt q).v),.z ((vbyt q).m)]
def iu:List Dt->List Dt
 | [.z x0]=>yS x0
 | _=>[]
def sT_vby:Tr:=
(.call 0 (kSc) (.cons (.bin .mul .i64 (.lit 8) (.mn (.mx (.var 0) (.lit 1)) (.lit 8))) .nil) 1
(.leaf (.vs 1 6 .nil)))
def akf:Spec:={F:=fun k=>match k with | 0=>nL | _=>fun _=>[],pre:=fun k=>match k with | 0=>mZ | _=>fun _=>True}
theorem apL:ap tys_VyB [xd 0] [] [] [] 200 Tryz.f81 [.one (.int .i64)] [.agg kSc] false [.int .i64] sT_vby:=⟨by kernel_rfl,by kernel_rfl,by kernel_rfl⟩
theorem apo (q:Int) (hq:inK .i64 q=true) (U:Env) (g:varsD U 0 [.int .i64]=[.z q]):sT_vby.asks akf (fun U e=>e.D U=iu [.z q]) U fun _ _=>False:=by
 simp only[varsD,varD,thm5,gS0,Nat.reduceAdd,and_true] at g
 simp only[sT_vby,akf,kSc,nL,wG,iu,yS,mZ,simQ,af,S1,Nat.reduceSub,Nat.reduceAdd,-eq_self,am,ao,ab,ae,g]
 refine⟨?_,?_⟩
 ·(show -64<=IntKind.i64.wrap (8*min (max q 1) 8)/\IntKind.i64.wrap (8*min (max q 1) 8)<=64;rw[aR];omega)
 intro e;(try simp only[e,am,ao,ab,ae,-eq_self]);clear e
 ·(refine ari ?_;unfold vbyt;rcases yj q with h | h | h | h | h | h | h | h<;>rw[h]<;>rfl)
theorem afa {sp:Spec} {key:Nat} (hF:sp.F key=iu) (hP:sp.pre key=fun _=>True:=by rfl):SmOk Tryz.prog sp (uK key):=
 au (s:=uK key) hF hP (by kernel_rfl) fU (smc (anI rfl rfl) sm0) Tryz.func81 fn0 apL (.inl rfl) (fun x0 gx0 hp U g=>apo x0 gx0 U g)
def anz (key:Nat):Sm:=⟨77,key,[.one (.int .u64)],[.one (.int .i64)],false⟩
def apH (x:Int):List Dt:=[.z (tzI x)]
def ajg:List Dt->List Dt
 | [.z x0]=>apH x0
 | _=>[]
def sT_tz:Tr:=
(.call 0 [.int .i64] (.cons (.var 0) .nil) 1
(.leaf (.cons (.var 1) .nil)))
def ap2:Spec:={F:=fun k=>match k with | 0=>nO | _=>fun _=>[],pre:=fun _ _=>True,hw:=sHw,hx:=sHx,hi:=sHi}
theorem arJ:ap tys_VyB [xi 0] [] [] [] 200 Tryz.f77 [.one (.int .u64)] [.one (.int .i64)] false [.int .u64] sT_tz:=⟨by kernel_rfl,by kernel_rfl,by kernel_rfl⟩
theorem arF (x:Int) (hx:inK .u64 x=true) (U:Env) (g:varsD U 0 [.int .u64]=[.z x]):sT_tz.asks ap2 (fun U e=>e.D U=ajg [.z x]) U fun _ _=>False:=by
 simp only[varsD,varD,thm5,gS0,Nat.reduceAdd,and_true] at g
 simp only[sT_tz,ap2,nO,adY,ajg,apH,simQ,af,S1,Nat.reduceSub,Nat.reduceAdd,-eq_self,am,ao,ab,ae,g]
 intro e;(try simp only[e,am,ao,ab,ae,-eq_self]);clear e
 ·(simp only[nO];try rfl)
theorem arM {sp:Spec} {key:Nat} (hF:sp.F key=ajg) (hP:sp.pre key=fun _=>True:=by rfl) (hH:∀w,sp.hw w->sHw w:=by exact fun _ h=>h):SmOk Tryz.prog sp (anz key):=
 au (s:=anz key) (hW:=hH) hF hP (by kernel_rfl) fU (smc (afd rfl) sm0) Tryz.func77 fn0 arJ (.inl rfl) (fun x0 gx0 hp U g=>arF x0 gx0 U g)
def xv (key:Nat):Sm:=⟨85,key,[.one (.int .i8)],[.one (.int .i8),.one .bool],true⟩
def ad6 (cc:Int):List Dt:=[.z (gP cc),.z (b2i (ff cc))]
def rV:List Dt->List Dt
 | [.z x0]=>ad6 x0
 | _=>[]
def sT_bnot:Tr:=
(.br (.lt (.var 0) (.lit 0))
(.leaf (.cons (.lit 0) (.cb (.tt false) .nil)))
(.br (.lt (.var 0) (.lit 10))
(.br (.eq (.var 0) (.lit 0))
(.leaf (.cons (.lit 1) (.cb (.tt true) .nil)))
(.br (.eq (.var 0) (.lit 1))
(.leaf (.cons (.lit 0) (.cb (.tt true) .nil)))
(.br (.eq (.var 0) (.lit 2))
(.leaf (.cons (.lit 5) (.cb (.tt true) .nil)))
(.br (.eq (.var 0) (.lit 3))
(.leaf (.cons (.lit 4) (.cb (.tt true) .nil)))
(.br (.eq (.var 0) (.lit 4))
(.leaf (.cons (.lit 3) (.cb (.tt true) .nil)))
(.br (.eq (.var 0) (.lit 5))
(.leaf (.cons (.lit 2) (.cb (.tt true) .nil)))
(.br (.eq (.var 0) (.lit 6))
(.leaf (.cons (.lit 9) (.cb (.tt true) .nil)))
(.br (.eq (.var 0) (.lit 7))
(.leaf (.cons (.lit 8) (.cb (.tt true) .nil)))
(.br (.eq (.var 0) (.lit 8))
(.leaf (.cons (.lit 7) (.cb (.tt true) .nil)))
(.br (.eq (.var 0) (.lit 9))
(.leaf (.cons (.lit 6) (.cb (.tt true) .nil)))
.panic))))))))))
(.leaf (.cons (.lit 0) (.cb (.tt false) .nil)))))
def aeX:Spec:={F:=fun k=>match k with | _=>fun _=>[],pre:=fun _ _=>True}
theorem anw:ap tys_VyB [] [] [] [] 200 Tryz.f85 [.one (.int .i8)] [.one (.int .i8),.one .bool] true [.int .i8] sT_bnot:=⟨by kernel_rfl,by kernel_rfl,by kernel_rfl⟩
theorem amP (cc:Int) (hcc:inK .i8 cc=true) (U:Env) (g:varsD U 0 [.int .i8]=[.z cc]):sT_bnot.asks aeX (fun U e=>e.D U=rV [.z cc]) U fun _ _=>False:=by
 simp only[varsD,varD,thm5,gS0,Nat.reduceAdd,and_true] at g
 simp only[sT_bnot,aeX,rV,ad6,simQ,af,S1,Nat.reduceSub,Nat.reduceAdd,-eq_self,am,ao,ab,ae,g]
 constructor<;>intro c0
 ·(unfold gP ff;simp_all<;>omega)
 constructor<;>intro c1
 constructor<;>intro c2
 ·(unfold gP ff;simp_all<;>omega)
 constructor<;>intro c3
 ·(unfold gP ff;simp_all<;>omega)
 constructor<;>intro c4
 ·(unfold gP ff;simp_all<;>omega)
 constructor<;>intro c5
 ·(unfold gP ff;simp_all<;>omega)
 constructor<;>intro c6
 ·(unfold gP ff;simp_all<;>omega)
 constructor<;>intro c7
 ·(unfold gP ff;simp_all<;>omega)
 constructor<;>intro c8
 ·(unfold gP ff;simp_all<;>omega)
 constructor<;>intro c9
 ·(unfold gP ff;simp_all<;>omega)
 constructor<;>intro c10
 ·(unfold gP ff;simp_all<;>omega)
 constructor<;>intro c11
 ·(unfold gP ff;simp_all<;>omega)
 ·(simp_all;omega)
 ·(unfold gP ff;simp_all<;>omega)
theorem anW {sp:Spec} {key:Nat} (hF:sp.F key=rV) (hP:sp.pre key=fun _=>True:=by rfl):SmOk Tryz.prog sp (xv key):=
 au (s:=xv key) hF hP (by kernel_rfl) fU (sm0) Tryz.func85 fn0 anw (.inl rfl) (fun x0 gx0 hp U g=>amP x0 gx0 U g)
def xe (key:Nat):Sm:=⟨79,key,[.one (.el (kN 9 220090000) 39),.agg kTy,.agg kTy],[.agg kTy],false⟩
def adV (x:List (List Int)) (a:Ty) (b:Ty):List Dt:=d_Ty (valu (aa x 0) a b) ([])
def kP:List Dt->List Dt
 | [.l x0,.z x1,.z x2,.z x3,.z x4,.z x5,.z x6,.z x7,.z x8,.z x9,.z x10,.z x11,.z x12,.z x13,.z x14,.z x15,.z x16,.z x17,.z x18]=>adV x0 ⟨x1,x2,x3,x4,x5,x6,x7,x8,x9⟩ ⟨x10,x11,x12,x13,x14,x15,x16,x17,x18⟩
 | _=>[]
def ahh:E:=(.bin .add .i64 (.var 9) (.bin .sub .i64 (.lit 0) (.var 13)))
def ahj:E:=(.bin .add .i64 (.var 8) (.bin .sub .i64 (.lit 0) (.var 14)))
def ale:Tr:=(.leaf (.cons (.lit 1) (.vs 25 6 (.cons (.lit 0) (.cons (.lit 0) .nil)))))
def ahk:Tr:=(.leaf (.cons (.lit 1) (.vs 19 6 (.cons (.lit 0) (.cons (.lit 0) .nil)))))
def abT:Tr:=(.call 2 (kSc) (.cons (.lit 4) .nil) 19
 ahk)
def alf:Tr:=(.br (.eq (.get (.lw 0) (.lit 0) 2) (.lit 64))
(.call 3 (kTy) .nil 25
(.leaf (.vs 25 9 .nil)))
(.call 2 (kSc) (.cons (.lit 4) .nil) 25
 ale))
def alg:Tr:=(.br (.eq (.get (.lw 0) (.lit 0) 2) (.lit 64))
(.br (.eq (.get (.lw 0) (.lit 0) 1) (.lit 0))
(.br (.lt (.var 4) (.lit (-1048576)))
(.call 3 (kTy) .nil 19
(.leaf (.vs 19 9 .nil)))
(.br (.lt (.lit 1048576) (.var 5))
(.call 3 (kTy) .nil 19
(.leaf (.vs 19 9 .nil)))
(.br (.lt (.bin .add .i64 (.var 17) (.var 4)) (.lit (-1048576)))
(.call 3 (kTy) .nil 19
(.leaf (.vs 19 9 .nil)))
(.br (.lt (.lit 1048576) (.bin .add .i64 (.var 17) (.var 4)))
(.call 3 (kTy) .nil 19
(.leaf (.vs 19 9 .nil)))
(.br (.lt (.bin .add .i64 (.var 18) (.var 5)) (.lit (-1048576)))
(.call 3 (kTy) .nil 19
(.leaf (.vs 19 9 .nil)))
(.br (.lt (.lit 1048576) (.bin .add .i64 (.var 18) (.var 5)))
(.call 3 (kTy) .nil 19
(.leaf (.vs 19 9 .nil)))
(.leaf (.vs 10 7 (.cons (.bin .add .i64 (.var 17) (.var 4)) (.cons (.bin .add .i64 (.var 18) (.var 5)) .nil))))))))))
(.call 3 (kTy) .nil 19
(.leaf (.vs 19 9 .nil))))
 abT)
def alh:Tr:=(.br (.eq (.get (.lw 0) (.lit 0) 2) (.lit 64))
(.br (.eq (.var 10) (.lit 2))
(.call 3 (kTy) .nil 19
(.leaf (.vs 19 9 .nil)))
(.br (.eq (.var 10) (.lit 3))
(.call 3 (kTy) .nil 19
(.leaf (.vs 19 9 .nil)))
(.br (.eq (.get (.lw 0) (.lit 0) 1) (.lit 0))
(.br (.lt (.var 13) (.lit (-1048576)))
(.call 3 (kTy) .nil 19
(.leaf (.vs 19 9 .nil)))
(.br (.lt (.lit 1048576) (.var 14))
(.call 3 (kTy) .nil 19
(.leaf (.vs 19 9 .nil)))
(.br (.lt (.bin .add .i64 (.var 8) (.var 13)) (.lit (-1048576)))
(.call 3 (kTy) .nil 19
(.leaf (.vs 19 9 .nil)))
(.br (.lt (.lit 1048576) (.bin .add .i64 (.var 8) (.var 13)))
(.call 3 (kTy) .nil 19
(.leaf (.vs 19 9 .nil)))
(.br (.lt (.bin .add .i64 (.var 9) (.var 14)) (.lit (-1048576)))
(.call 3 (kTy) .nil 19
(.leaf (.vs 19 9 .nil)))
(.br (.lt (.lit 1048576) (.bin .add .i64 (.var 9) (.var 14)))
(.call 3 (kTy) .nil 19
(.leaf (.vs 19 9 .nil)))
(.leaf (.vs 1 7 (.cons (.bin .add .i64 (.var 8) (.var 13)) (.cons (.bin .add .i64 (.var 9) (.var 14)) .nil))))))))))
(.br (.eq (.get (.lw 0) (.lit 0) 1) (.lit 1))
(.br (.lt (.var 13) (.lit (-1048576)))
(.call 3 (kTy) .nil 19
(.leaf (.vs 19 9 .nil)))
(.br (.lt (.lit 1048576) (.var 14))
(.call 3 (kTy) .nil 19
(.leaf (.vs 19 9 .nil)))
(.br (.lt ahj (.lit (-1048576)))
(.call 3 (kTy) .nil 19
(.leaf (.vs 19 9 .nil)))
(.br (.lt (.lit 1048576) ahj)
(.call 3 (kTy) .nil 19
(.leaf (.vs 19 9 .nil)))
(.br (.lt ahh (.lit (-1048576)))
(.call 3 (kTy) .nil 19
(.leaf (.vs 19 9 .nil)))
(.br (.lt (.lit 1048576) ahh)
(.call 3 (kTy) .nil 19
(.leaf (.vs 19 9 .nil)))
(.leaf (.vs 1 7 (.cons ahj (.cons ahh .nil))))))))))
(.call 3 (kTy) .nil 19
(.leaf (.vs 19 9 .nil)))))))
 abT)
def sT_valu:Tr:=
(.br (.lt (.lit 0) (.len (.lw 0)))
(.br (.eq (.get (.lw 0) (.lit 0) 1) (.lit 11))
(.br (.eq (.get (.lw 0) (.lit 0) 2) (.lit 64))
(.leaf (.vs 10 9 .nil))
(.br (.eq (.var 10) (.lit 2))
 abT
(.br (.eq (.var 10) (.lit 3))
 abT
(.call 1 (kSc) (.cons (.get (.lw 0) (.lit 0) 1) (.cons (.get (.lw 0) (.lit 0) 2) (.vs 11 6 (.vs 11 6 .nil)))) 19
 ahk))))
(.br (.eq (.get (.lw 0) (.lit 0) 1) (.lit 8))
(.call 0 (kSc) (.cons (.lit 0) .nil) 19
(.br (.eq (.var 1) (.lit 2))
 alf
(.br (.eq (.var 1) (.lit 3))
 alf
(.call 1 (kSc) (.cons (.get (.lw 0) (.lit 0) 1) (.cons (.get (.lw 0) (.lit 0) 2) (.vs 2 6 (.vs 19 6 .nil)))) 25
 ale))))
(.br (.eq (.var 1) (.lit 2))
 alh
(.br (.eq (.var 1) (.lit 3))
 alh
(.br (.eq (.var 10) (.lit 2))
 alg
(.br (.eq (.var 10) (.lit 3))
 alg
(.call 1 (kSc) (.cons (.get (.lw 0) (.lit 0) 1) (.cons (.get (.lw 0) (.lit 0) 2) (.vs 2 6 (.vs 11 6 .nil)))) 19
 ahk)))))))
(.stuck 54))
def aew:Spec:={F:=fun k=>match k with | 0=>dn | 1=>uQ | 2=>iu | 3=>cp | _=>fun _=>[],pre:=fun _ _=>True}
theorem am4:ap tys_VyB [kL 0,ae0 1,uK 2,fm 3] [(53,Tryz.f53,[],[]),(78,Tryz.f78,[],[]),(144,Tryz.f144,[],[]),(55,Tryz.f55,[],[])] [(999997,[])] [] 200 Tryz.f79 [.one (.el (kN 9 220090000) 39),.agg kTy,.agg kTy] [.agg kTy] false (.list (kN 9 220090000)::(v_Ty (v_Ty ([])))) sT_valu:=⟨by kernel_rfl,by kernel_rfl,by kernel_rfl⟩
def na:List Dt->Prop
 | [.l x0,.z x1,.z x2,.z x3,.z x4,.z x5,.z x6,.z x7,.z x8,.z x9,.z x10,.z x11,.z x12,.z x13,.z x14,.z x15,.z x16,.z x17,.z x18]=>let f (x:List (List Int)) (a:Ty) (b:Ty):Prop:=x.length=1;f x0 ⟨x1,x2,x3,x4,x5,x6,x7,x8,x9⟩ ⟨x10,x11,x12,x13,x14,x15,x16,x17,x18⟩
 | _=>False
theorem amo (x:List (List Int)) (hx:RowsIn (kN 9 220090000) x) (a:Ty) (ha:Ty.ok a) (b:Ty) (hb:Ty.ok b) (hp:na (.l x::(d_Ty a (d_Ty b ([]))))) (U:Env) (g:varsD U 0 (.list (kN 9 220090000)::(v_Ty (v_Ty ([]))))=(.l x::(d_Ty a (d_Ty b ([]))))):sT_valu.asks aew (fun U e=>e.D U=kP (.l x::(d_Ty a (d_Ty b ([]))))) U fun _ _=>False:=by
 simp only[na,d_Ty,b2i_one,am,ao,ab,ae] at hp
 simp only[d_Ty,v_Ty,varsD,varD,thm5,gS0,Nat.reduceAdd,and_true] at g
 simp only[sT_valu,alh,alg,alf,abT,ahk,ale,ahj,ahh,aew,d_Ty,kSc,kTy,dn,uQ,iu,cp,mJ,adU,yS,kP,adV,simQ,af,S1,Nat.reduceSub,Nat.reduceAdd,-eq_self,am,ao,ab,ae,g]
 constructor<;>intro c0
 constructor<;>intro c1
 constructor<;>intro c2
 ·rw[va_m c1 c2];try rfl
 constructor<;>intro c3
 intro e;(try simp only[e,am,ao,ab,ae,-eq_self]);clear e
 ·rw[va_o c1 c2,of_2 (op:=(aa x 0).op) (w:=(aa x 0).w) (.inl (pT c3)) c2];try rfl
 constructor<;>intro c4
 intro e;(try simp only[e,am,ao,ab,ae,-eq_self]);clear e
 ·rw[va_o c1 c2,of_2 (op:=(aa x 0).op) (w:=(aa x 0).w) (.inl (pU c4)) c2];try rfl
 intro e;(try simp only[e,am,ao,ab,ae,-eq_self]);clear e
 ·rw[va_o c1 c2,of_1 (op:=(aa x 0).op) (w:=(aa x 0).w) (pF c3 c4) (pF c3 c4)];try rfl
 constructor<;>intro c5
 intro e;(try simp only[e,am,ao,ab,ae,-eq_self]);clear e
 constructor<;>intro c6
 constructor<;>intro c7
 intro e;(try simp only[e,am,ao,ab,ae,-eq_self]);clear e
 ·rw[va_n c1 c5,of_8 (op:=(aa x 0).op) (w:=(aa x 0).w) (pT c6) c7 c5];try rfl
 intro e;(try simp only[e,am,ao,ab,ae,-eq_self]);clear e
 ·rw[va_n c1 c5,of_2 (op:=(aa x 0).op) (w:=(aa x 0).w) (.inl (pT c6)) c7];try rfl
 constructor<;>intro c8
 constructor<;>intro c9
 intro e;(try simp only[e,am,ao,ab,ae,-eq_self]);clear e
 ·rw[va_n c1 c5,of_8 (op:=(aa x 0).op) (w:=(aa x 0).w) (pU c8) c9 c5];try rfl
 intro e;(try simp only[e,am,ao,ab,ae,-eq_self]);clear e
 ·rw[va_n c1 c5,of_2 (op:=(aa x 0).op) (w:=(aa x 0).w) (.inl (pU c8)) c9];try rfl
 intro e;(try simp only[e,am,ao,ab,ae,-eq_self]);clear e
 ·rw[va_n c1 c5,of_1 (op:=(aa x 0).op) (w:=(aa x 0).w) (pF c6 c8) rfl];try rfl
 constructor<;>intro c10
 constructor<;>intro c11
 constructor<;>intro c12
 intro e;(try simp only[e,am,ao,ab,ae,-eq_self]);clear e
 ·rw[va_e c1 c5,of_5 (op:=(aa x 0).op) (w:=(aa x 0).w) (pT c10) (pT c12) c11];try rfl
 constructor<;>intro c13
 intro e;(try simp only[e,am,ao,ab,ae,-eq_self]);clear e
 ·rw[va_e c1 c5,of_5 (op:=(aa x 0).op) (w:=(aa x 0).w) (pT c10) (pU c13) c11];try rfl
 constructor<;>intro c14
 constructor<;>intro c15
 intro e;(try simp only[e,am,ao,ab,ae,-eq_self]);clear e
 ·rw[va_e c1 c5,of_3 (op:=(aa x 0).op) (w:=(aa x 0).w) (pT c10) (pF c12 c13) c11 (.inl (eqI c14)),show((aa x 0).op==1)=false by rw[show(aa x 0).op=0 from eqI c14];rfl,bS (t:=a) (s:=b.s) (b:=false) (.inl (thm3 c15))];try rfl
 constructor<;>intro c16
 intro e;(try simp only[e,am,ao,ab,ae,-eq_self]);clear e
 ·rw[va_e c1 c5,of_3 (op:=(aa x 0).op) (w:=(aa x 0).w) (pT c10) (pF c12 c13) c11 (.inl (eqI c14)),show((aa x 0).op==1)=false by rw[show(aa x 0).op=0 from eqI c14];rfl,bS (t:=a) (s:=b.s) (b:=false) (.inr (.inl (thm3 c16)))];try rfl
 constructor<;>intro c17
 intro e;(try simp only[e,am,ao,ab,ae,-eq_self]);clear e
 ·rw[va_e c1 c5,of_3 (op:=(aa x 0).op) (w:=(aa x 0).w) (pT c10) (pF c12 c13) c11 (.inl (eqI c14)),show((aa x 0).op==1)=false by rw[show(aa x 0).op=0 from eqI c14];rfl,bS (t:=a) (s:=b.s) (b:=false) (.inr (.inr (.inl (thm3 c17))))];try rfl
 constructor<;>intro c18
 intro e;(try simp only[e,am,ao,ab,ae,-eq_self]);clear e
 ·rw[va_e c1 c5,of_3 (op:=(aa x 0).op) (w:=(aa x 0).w) (pT c10) (pF c12 c13) c11 (.inl (eqI c14)),show((aa x 0).op==1)=false by rw[show(aa x 0).op=0 from eqI c14];rfl,bS (t:=a) (s:=b.s) (b:=false) (.inr (.inr (.inr (.inl (thm3 c18)))))];try rfl
 constructor<;>intro c19
 intro e;(try simp only[e,am,ao,ab,ae,-eq_self]);clear e
 ·rw[va_e c1 c5,of_3 (op:=(aa x 0).op) (w:=(aa x 0).w) (pT c10) (pF c12 c13) c11 (.inl (eqI c14)),show((aa x 0).op==1)=false by rw[show(aa x 0).op=0 from eqI c14];rfl,bS (t:=a) (s:=b.s) (b:=false) (.inr (.inr (.inr (.inr (.inl (thm3 c19))))))];try rfl
 constructor<;>intro c20
 intro e;(try simp only[e,am,ao,ab,ae,-eq_self]);clear e
 ·rw[va_e c1 c5,of_3 (op:=(aa x 0).op) (w:=(aa x 0).w) (pT c10) (pF c12 c13) c11 (.inl (eqI c14)),show((aa x 0).op==1)=false by rw[show(aa x 0).op=0 from eqI c14];rfl,bS (t:=a) (s:=b.s) (b:=false) (.inr (.inr (.inr (.inr (.inr ((thm3 c20)))))))];try rfl
 ·rw[va_e c1 c5,of_3 (op:=(aa x 0).op) (w:=(aa x 0).w) (pT c10) (pF c12 c13) c11 (.inl (eqI c14)),show((aa x 0).op==1)=false by rw[show(aa x 0).op=0 from eqI c14];rfl,pG (t:=a) (s:=b.s) (b:=false) (thm2 c15) (thm2 c16) (thm2 c17) (thm2 c18) (thm2 c19) (thm2 c20)];try rfl
 constructor<;>intro c21
 constructor<;>intro c22
 intro e;(try simp only[e,am,ao,ab,ae,-eq_self]);clear e
 ·rw[va_e c1 c5,of_3 (op:=(aa x 0).op) (w:=(aa x 0).w) (pT c10) (pF c12 c13) c11 (.inr (eqI c21)),show((aa x 0).op==1)=true from c21,bS (t:=a) (s:=b.s) (b:=true) (.inl (thm3 c22))];try rfl
 constructor<;>intro c23
 intro e;(try simp only[e,am,ao,ab,ae,-eq_self]);clear e
 ·rw[va_e c1 c5,of_3 (op:=(aa x 0).op) (w:=(aa x 0).w) (pT c10) (pF c12 c13) c11 (.inr (eqI c21)),show((aa x 0).op==1)=true from c21,bS (t:=a) (s:=b.s) (b:=true) (.inr (.inl (thm3 c23)))];try rfl
 constructor<;>intro c24
 intro e;(try simp only[e,am,ao,ab,ae,-eq_self]);clear e
 ·rw[va_e c1 c5,of_3 (op:=(aa x 0).op) (w:=(aa x 0).w) (pT c10) (pF c12 c13) c11 (.inr (eqI c21)),show((aa x 0).op==1)=true from c21,bS (t:=a) (s:=b.s) (b:=true) (.inr (.inr (.inl (thm3 c24))))];try rfl
 constructor<;>intro c25
 intro e;(try simp only[e,am,ao,ab,ae,-eq_self]);clear e
 ·rw[va_e c1 c5,of_3 (op:=(aa x 0).op) (w:=(aa x 0).w) (pT c10) (pF c12 c13) c11 (.inr (eqI c21)),show((aa x 0).op==1)=true from c21,bS (t:=a) (s:=b.s) (b:=true) (.inr (.inr (.inr (.inl (thm3 c25)))))];try rfl
 constructor<;>intro c26
 intro e;(try simp only[e,am,ao,ab,ae,-eq_self]);clear e
 ·rw[va_e c1 c5,of_3 (op:=(aa x 0).op) (w:=(aa x 0).w) (pT c10) (pF c12 c13) c11 (.inr (eqI c21)),show((aa x 0).op==1)=true from c21,bS (t:=a) (s:=b.s) (b:=true) (.inr (.inr (.inr (.inr (.inl (thm3 c26))))))];try rfl
 constructor<;>intro c27
 intro e;(try simp only[e,am,ao,ab,ae,-eq_self]);clear e
 ·rw[va_e c1 c5,of_3 (op:=(aa x 0).op) (w:=(aa x 0).w) (pT c10) (pF c12 c13) c11 (.inr (eqI c21)),show((aa x 0).op==1)=true from c21,bS (t:=a) (s:=b.s) (b:=true) (.inr (.inr (.inr (.inr (.inr ((thm3 c27)))))))];try rfl
 ·rw[va_e c1 c5,of_3 (op:=(aa x 0).op) (w:=(aa x 0).w) (pT c10) (pF c12 c13) c11 (.inr (eqI c21)),show((aa x 0).op==1)=true from c21,pG (t:=a) (s:=b.s) (b:=true) (thm2 c22) (thm2 c23) (thm2 c24) (thm2 c25) (thm2 c26) (thm2 c27)];try rfl
 intro e;(try simp only[e,am,ao,ab,ae,-eq_self]);clear e
 ·rw[va_e c1 c5,of_6 (op:=(aa x 0).op) (w:=(aa x 0).w) (pT c10) c11 c14 c21];try rfl
 intro e;(try simp only[e,am,ao,ab,ae,-eq_self]);clear e
 ·rw[va_e c1 c5,of_2 (op:=(aa x 0).op) (w:=(aa x 0).w) (.inl (pT c10)) c11];try rfl
 constructor<;>intro c28
 constructor<;>intro c29
 constructor<;>intro c30
 intro e;(try simp only[e,am,ao,ab,ae,-eq_self]);clear e
 ·rw[va_e c1 c5,of_5 (op:=(aa x 0).op) (w:=(aa x 0).w) (pU c28) (pT c30) c29];try rfl
 constructor<;>intro c31
 intro e;(try simp only[e,am,ao,ab,ae,-eq_self]);clear e
 ·rw[va_e c1 c5,of_5 (op:=(aa x 0).op) (w:=(aa x 0).w) (pU c28) (pU c31) c29];try rfl
 constructor<;>intro c32
 constructor<;>intro c33
 intro e;(try simp only[e,am,ao,ab,ae,-eq_self]);clear e
 ·rw[va_e c1 c5,of_3 (op:=(aa x 0).op) (w:=(aa x 0).w) (pU c28) (pF c30 c31) c29 (.inl (eqI c32)),show((aa x 0).op==1)=false by rw[show(aa x 0).op=0 from eqI c32];rfl,bS (t:=a) (s:=b.s) (b:=false) (.inl (thm3 c33))];try rfl
 constructor<;>intro c34
 intro e;(try simp only[e,am,ao,ab,ae,-eq_self]);clear e
 ·rw[va_e c1 c5,of_3 (op:=(aa x 0).op) (w:=(aa x 0).w) (pU c28) (pF c30 c31) c29 (.inl (eqI c32)),show((aa x 0).op==1)=false by rw[show(aa x 0).op=0 from eqI c32];rfl,bS (t:=a) (s:=b.s) (b:=false) (.inr (.inl (thm3 c34)))];try rfl
 constructor<;>intro c35
 intro e;(try simp only[e,am,ao,ab,ae,-eq_self]);clear e
 ·rw[va_e c1 c5,of_3 (op:=(aa x 0).op) (w:=(aa x 0).w) (pU c28) (pF c30 c31) c29 (.inl (eqI c32)),show((aa x 0).op==1)=false by rw[show(aa x 0).op=0 from eqI c32];rfl,bS (t:=a) (s:=b.s) (b:=false) (.inr (.inr (.inl (thm3 c35))))];try rfl
 constructor<;>intro c36
 intro e;(try simp only[e,am,ao,ab,ae,-eq_self]);clear e
 ·rw[va_e c1 c5,of_3 (op:=(aa x 0).op) (w:=(aa x 0).w) (pU c28) (pF c30 c31) c29 (.inl (eqI c32)),show((aa x 0).op==1)=false by rw[show(aa x 0).op=0 from eqI c32];rfl,bS (t:=a) (s:=b.s) (b:=false) (.inr (.inr (.inr (.inl (thm3 c36)))))];try rfl
 constructor<;>intro c37
 intro e;(try simp only[e,am,ao,ab,ae,-eq_self]);clear e
 ·rw[va_e c1 c5,of_3 (op:=(aa x 0).op) (w:=(aa x 0).w) (pU c28) (pF c30 c31) c29 (.inl (eqI c32)),show((aa x 0).op==1)=false by rw[show(aa x 0).op=0 from eqI c32];rfl,bS (t:=a) (s:=b.s) (b:=false) (.inr (.inr (.inr (.inr (.inl (thm3 c37))))))];try rfl
 constructor<;>intro c38
 intro e;(try simp only[e,am,ao,ab,ae,-eq_self]);clear e
 ·rw[va_e c1 c5,of_3 (op:=(aa x 0).op) (w:=(aa x 0).w) (pU c28) (pF c30 c31) c29 (.inl (eqI c32)),show((aa x 0).op==1)=false by rw[show(aa x 0).op=0 from eqI c32];rfl,bS (t:=a) (s:=b.s) (b:=false) (.inr (.inr (.inr (.inr (.inr ((thm3 c38)))))))];try rfl
 ·rw[va_e c1 c5,of_3 (op:=(aa x 0).op) (w:=(aa x 0).w) (pU c28) (pF c30 c31) c29 (.inl (eqI c32)),show((aa x 0).op==1)=false by rw[show(aa x 0).op=0 from eqI c32];rfl,pG (t:=a) (s:=b.s) (b:=false) (thm2 c33) (thm2 c34) (thm2 c35) (thm2 c36) (thm2 c37) (thm2 c38)];try rfl
 constructor<;>intro c39
 constructor<;>intro c40
 intro e;(try simp only[e,am,ao,ab,ae,-eq_self]);clear e
 ·rw[va_e c1 c5,of_3 (op:=(aa x 0).op) (w:=(aa x 0).w) (pU c28) (pF c30 c31) c29 (.inr (eqI c39)),show((aa x 0).op==1)=true from c39,bS (t:=a) (s:=b.s) (b:=true) (.inl (thm3 c40))];try rfl
 constructor<;>intro c41
 intro e;(try simp only[e,am,ao,ab,ae,-eq_self]);clear e
 ·rw[va_e c1 c5,of_3 (op:=(aa x 0).op) (w:=(aa x 0).w) (pU c28) (pF c30 c31) c29 (.inr (eqI c39)),show((aa x 0).op==1)=true from c39,bS (t:=a) (s:=b.s) (b:=true) (.inr (.inl (thm3 c41)))];try rfl
 constructor<;>intro c42
 intro e;(try simp only[e,am,ao,ab,ae,-eq_self]);clear e
 ·rw[va_e c1 c5,of_3 (op:=(aa x 0).op) (w:=(aa x 0).w) (pU c28) (pF c30 c31) c29 (.inr (eqI c39)),show((aa x 0).op==1)=true from c39,bS (t:=a) (s:=b.s) (b:=true) (.inr (.inr (.inl (thm3 c42))))];try rfl
 constructor<;>intro c43
 intro e;(try simp only[e,am,ao,ab,ae,-eq_self]);clear e
 ·rw[va_e c1 c5,of_3 (op:=(aa x 0).op) (w:=(aa x 0).w) (pU c28) (pF c30 c31) c29 (.inr (eqI c39)),show((aa x 0).op==1)=true from c39,bS (t:=a) (s:=b.s) (b:=true) (.inr (.inr (.inr (.inl (thm3 c43)))))];try rfl
 constructor<;>intro c44
 intro e;(try simp only[e,am,ao,ab,ae,-eq_self]);clear e
 ·rw[va_e c1 c5,of_3 (op:=(aa x 0).op) (w:=(aa x 0).w) (pU c28) (pF c30 c31) c29 (.inr (eqI c39)),show((aa x 0).op==1)=true from c39,bS (t:=a) (s:=b.s) (b:=true) (.inr (.inr (.inr (.inr (.inl (thm3 c44))))))];try rfl
 constructor<;>intro c45
 intro e;(try simp only[e,am,ao,ab,ae,-eq_self]);clear e
 ·rw[va_e c1 c5,of_3 (op:=(aa x 0).op) (w:=(aa x 0).w) (pU c28) (pF c30 c31) c29 (.inr (eqI c39)),show((aa x 0).op==1)=true from c39,bS (t:=a) (s:=b.s) (b:=true) (.inr (.inr (.inr (.inr (.inr ((thm3 c45)))))))];try rfl
 ·rw[va_e c1 c5,of_3 (op:=(aa x 0).op) (w:=(aa x 0).w) (pU c28) (pF c30 c31) c29 (.inr (eqI c39)),show((aa x 0).op==1)=true from c39,pG (t:=a) (s:=b.s) (b:=true) (thm2 c40) (thm2 c41) (thm2 c42) (thm2 c43) (thm2 c44) (thm2 c45)];try rfl
 intro e;(try simp only[e,am,ao,ab,ae,-eq_self]);clear e
 ·rw[va_e c1 c5,of_6 (op:=(aa x 0).op) (w:=(aa x 0).w) (pU c28) c29 c32 c39];try rfl
 intro e;(try simp only[e,am,ao,ab,ae,-eq_self]);clear e
 ·rw[va_e c1 c5,of_2 (op:=(aa x 0).op) (w:=(aa x 0).w) (.inl (pU c28)) c29];try rfl
 constructor<;>intro c46
 constructor<;>intro c47
 constructor<;>intro c48
 constructor<;>intro c49
 intro e;(try simp only[e,am,ao,ab,ae,-eq_self]);clear e
 ·rw[va_e c1 c5,of_4 (op:=(aa x 0).op) (w:=(aa x 0).w) (pF c10 c28) (pT c46) c47 c48,bS (t:=b) (s:=a.s) (b:=false) (.inl (thm3 c49))];try rfl
 constructor<;>intro c50
 intro e;(try simp only[e,am,ao,ab,ae,-eq_self]);clear e
 ·rw[va_e c1 c5,of_4 (op:=(aa x 0).op) (w:=(aa x 0).w) (pF c10 c28) (pT c46) c47 c48,bS (t:=b) (s:=a.s) (b:=false) (.inr (.inl (thm3 c50)))];try rfl
 constructor<;>intro c51
 intro e;(try simp only[e,am,ao,ab,ae,-eq_self]);clear e
 ·rw[va_e c1 c5,of_4 (op:=(aa x 0).op) (w:=(aa x 0).w) (pF c10 c28) (pT c46) c47 c48,bS (t:=b) (s:=a.s) (b:=false) (.inr (.inr (.inl (thm3 c51))))];try rfl
 constructor<;>intro c52
 intro e;(try simp only[e,am,ao,ab,ae,-eq_self]);clear e
 ·rw[va_e c1 c5,of_4 (op:=(aa x 0).op) (w:=(aa x 0).w) (pF c10 c28) (pT c46) c47 c48,bS (t:=b) (s:=a.s) (b:=false) (.inr (.inr (.inr (.inl (thm3 c52)))))];try rfl
 constructor<;>intro c53
 intro e;(try simp only[e,am,ao,ab,ae,-eq_self]);clear e
 ·rw[va_e c1 c5,of_4 (op:=(aa x 0).op) (w:=(aa x 0).w) (pF c10 c28) (pT c46) c47 c48,bS (t:=b) (s:=a.s) (b:=false) (.inr (.inr (.inr (.inr (.inl (thm3 c53))))))];try rfl
 constructor<;>intro c54
 intro e;(try simp only[e,am,ao,ab,ae,-eq_self]);clear e
 ·rw[va_e c1 c5,of_4 (op:=(aa x 0).op) (w:=(aa x 0).w) (pF c10 c28) (pT c46) c47 c48,bS (t:=b) (s:=a.s) (b:=false) (.inr (.inr (.inr (.inr (.inr ((thm3 c54)))))))];try rfl
 ·rw[va_e c1 c5,of_4 (op:=(aa x 0).op) (w:=(aa x 0).w) (pF c10 c28) (pT c46) c47 c48,pG (t:=b) (s:=a.s) (b:=false) (thm2 c49) (thm2 c50) (thm2 c51) (thm2 c52) (thm2 c53) (thm2 c54)];try rfl
 intro e;(try simp only[e,am,ao,ab,ae,-eq_self]);clear e
 ·rw[va_e c1 c5,of_7 (op:=(aa x 0).op) (w:=(aa x 0).w) (pT c46) c47 c48];try rfl
 intro e;(try simp only[e,am,ao,ab,ae,-eq_self]);clear e
 ·rw[va_e c1 c5,of_2 (op:=(aa x 0).op) (w:=(aa x 0).w) (.inr (pT c46)) c47];try rfl
 constructor<;>intro c55
 constructor<;>intro c56
 constructor<;>intro c57
 constructor<;>intro c58
 intro e;(try simp only[e,am,ao,ab,ae,-eq_self]);clear e
 ·rw[va_e c1 c5,of_4 (op:=(aa x 0).op) (w:=(aa x 0).w) (pF c10 c28) (pU c55) c56 c57,bS (t:=b) (s:=a.s) (b:=false) (.inl (thm3 c58))];try rfl
 constructor<;>intro c59
 intro e;(try simp only[e,am,ao,ab,ae,-eq_self]);clear e
 ·rw[va_e c1 c5,of_4 (op:=(aa x 0).op) (w:=(aa x 0).w) (pF c10 c28) (pU c55) c56 c57,bS (t:=b) (s:=a.s) (b:=false) (.inr (.inl (thm3 c59)))];try rfl
 constructor<;>intro c60
 intro e;(try simp only[e,am,ao,ab,ae,-eq_self]);clear e
 ·rw[va_e c1 c5,of_4 (op:=(aa x 0).op) (w:=(aa x 0).w) (pF c10 c28) (pU c55) c56 c57,bS (t:=b) (s:=a.s) (b:=false) (.inr (.inr (.inl (thm3 c60))))];try rfl
 constructor<;>intro c61
 intro e;(try simp only[e,am,ao,ab,ae,-eq_self]);clear e
 ·rw[va_e c1 c5,of_4 (op:=(aa x 0).op) (w:=(aa x 0).w) (pF c10 c28) (pU c55) c56 c57,bS (t:=b) (s:=a.s) (b:=false) (.inr (.inr (.inr (.inl (thm3 c61)))))];try rfl
 constructor<;>intro c62
 intro e;(try simp only[e,am,ao,ab,ae,-eq_self]);clear e
 ·rw[va_e c1 c5,of_4 (op:=(aa x 0).op) (w:=(aa x 0).w) (pF c10 c28) (pU c55) c56 c57,bS (t:=b) (s:=a.s) (b:=false) (.inr (.inr (.inr (.inr (.inl (thm3 c62))))))];try rfl
 constructor<;>intro c63
 intro e;(try simp only[e,am,ao,ab,ae,-eq_self]);clear e
 ·rw[va_e c1 c5,of_4 (op:=(aa x 0).op) (w:=(aa x 0).w) (pF c10 c28) (pU c55) c56 c57,bS (t:=b) (s:=a.s) (b:=false) (.inr (.inr (.inr (.inr (.inr ((thm3 c63)))))))];try rfl
 ·rw[va_e c1 c5,of_4 (op:=(aa x 0).op) (w:=(aa x 0).w) (pF c10 c28) (pU c55) c56 c57,pG (t:=b) (s:=a.s) (b:=false) (thm2 c58) (thm2 c59) (thm2 c60) (thm2 c61) (thm2 c62) (thm2 c63)];try rfl
 intro e;(try simp only[e,am,ao,ab,ae,-eq_self]);clear e
 ·rw[va_e c1 c5,of_7 (op:=(aa x 0).op) (w:=(aa x 0).w) (pU c55) c56 c57];try rfl
 intro e;(try simp only[e,am,ao,ab,ae,-eq_self]);clear e
 ·rw[va_e c1 c5,of_2 (op:=(aa x 0).op) (w:=(aa x 0).w) (.inr (pU c55)) c56];try rfl
 intro e;(try simp only[e,am,ao,ab,ae,-eq_self]);clear e
 ·rw[va_e c1 c5,of_1 (op:=(aa x 0).op) (w:=(aa x 0).w) (pF c10 c28) (pF c46 c55)];try rfl
 ·(rw[hp] at c0;simp at c0)
theorem anJ {sp:Spec} {key:Nat} (hF:sp.F key=kP) (hP:sp.pre key=na):SmOk Tryz.prog sp (xe key):=
 au (s:=xe key) hF hP (by kernel_rfl) fU (smc (rT rfl) (smc (ap7 rfl) (smc (afa rfl) (smc (jx rfl) sm0)))) Tryz.func79 (fnc Tryz.func53 (fnc Tryz.func78 (fnc Tryz.func144 (fnc Tryz.func55 fn0)))) am4 (.inr (.inl ⟨(fun xs h L hL=>by unfold na at h;split at h<;>first | exact h.elim | (simp at hL;subst hL;rw[h];unfold maxLen;omega)),rfl⟩)) (fun x0 gx0=>bj fun q2 gq2=>bj fun q3 gq3=>fun hp U g=>amo x0 gx0 q2 gq2 q3 gq3 hp U g)
end Go.Proofs.YtfkhblmeioiciaaGreatDoor
