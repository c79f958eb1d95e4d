import Derived.Test.YtfkhblmeioiciaaGreatDoorVyA
import Derived.Test.YtfkhblmeioiciaaGreatDoorVaC
import Derived.Test.YtfkhblmeioiciaaGreatDoorSdB
import Derived.Test.YtfkhblmeioiciaaGreatDoorLiC
import Derived.Test.YtfkhblmeioiciaaGreatDoorTzA
import Derived.Test.YtfkhblmeioiciaaGreatDoorProg
import Derived.Laws.Externs
set_option linter.unusedVariables false
set_option linter.unusedSimpArgs false
namespace Go.Proofs.YtfkhblmeioiciaaGreatDoor
open Go.RowKit Go.ChangeShapes Go.WideShapes
def tys_VyB:List (Nat×TI):=[(2,⟨false,1,[.int .i64 (.lit 0)],[],none,some .i64,false,false,none,8,false,none,false,0⟩),
 (3,⟨false,1,[.int .i64 (.lit 0)],[],none,some .i64,false,false,none,8,false,none,false,0⟩),
 (4,⟨false,1,[.bool (.tt false)],[],none,none,false,true,none,1,false,none,false,0⟩),
 (37,⟨false,1,[.int .i8 (.lit 0)],[],none,some .i8,false,false,none,1,false,none,false,0⟩),
 (39,⟨true,9,(zN 9 220090000),[(0,37),(1,37),(2,37),(3,37),(4,4),(5,37),(6,37),(7,3),(8,3)],none,none,true,false,none,24,false,none,false,0⟩),
 (42,⟨false,1,[.int .u64 (.lit 0)],[],none,some .u64,false,false,none,8,false,none,false,0⟩),
 (44,⟨true,4,(zN 4 2211),[(0,42),(1,42),(2,2),(3,2)],none,none,false,false,none,32,false,none,false,0⟩),
 (46,⟨true,2,[.int .u64 (.lit 0),.int .u64 (.lit 0)],[(0,42),(1,42)],none,none,false,false,none,16,false,none,false,0⟩),
 (48,⟨true,6,(zN 6 112211),[(0,44),(4,46)],none,none,true,false,none,48,false,none,false,0⟩),
 (50,⟨true,9,(zN 9 221122110),[(0,37),(1,48),(7,3),(8,3)],none,none,true,false,none,72,false,none,false,0⟩),
 (70,⟨false,1,[.nsl],[],none,none,false,false,some 3,24,false,none,false,0⟩),
 (105,⟨false,1,[.int .u64 (.lit 0)],[],none,some .u64,false,false,none,8,false,none,false,0⟩),
 (167,⟨false,1,[.int .u32 (.lit 0)],[],none,some .u32,false,false,none,4,false,none,false,0⟩),
 (189,⟨true,10,(zN 10 0),[],some (10,37),none,false,false,none,10,false,none,false,0⟩)]
set_option maxRecDepth 100000 in
theorem zR:(tys_VyB.all fun p=>ckTI Tryz.prog p.1 p.2)=true:=by kernel_rfl
theorem qu:(tys_VyB.all fun p=>!p.2.eqok||((Nat.beq p.1 39&&aW p.2.zero mU)||(Nat.beq p.1 48&&aW p.2.zero z_Sc)||(Nat.beq p.1 50&&aW p.2.zero z_Ty)))=true:=by kernel_rfl
theorem zA:(tys_VyB.all fun p=>!p.2.keyok)=true:=by kernel_rfl
theorem eL:∀t i,(t,i)∈tys_VyB→TIok Tryz.prog t i:=by
 intro t i h
 refine bI (cM (f:=ckTI Tryz.prog) zR h) (fun he=> ?_) (fun he=> ?_) (fun he=> ?_)
 ·have h1:=List.all_eq_true.1 qu (t,i) h
  simp only[he,Bool.not_true,Bool.false_or,Bool.or_eq_true,Bool.and_eq_true] at h1
  rcases h1 with(h1 | h1) | h1
  ·have hs:=h1.2
   obtain rfl:=Nat.eq_of_beq_eq_true h1.1
   exact fun vs us hv hu=>nO vs us (ap hs hv) (ap hs hu)
  ·have hs:=h1.2
   obtain rfl:=Nat.eq_of_beq_eq_true h1.1
   exact fun vs us hv hu=>ac5 vs us (ap hs hv) (ap hs hu)
  ·have hs:=h1.2
   obtain rfl:=Nat.eq_of_beq_eq_true h1.1
   exact fun vs us hv hu=>ac4 vs us (ap hs hv) (ap hs hu)
 ·have h1:=List.all_eq_true.1 qu (t,i) h
  simp only[he,Bool.not_true,Bool.false_or,Bool.or_eq_true,Bool.and_eq_true] at h1
  rcases h1 with(h1 | h1) | h1
  ·have hs:=h1.2
   obtain rfl:=Nat.eq_of_beq_eq_true h1.1
   exact jL
  ·have hs:=h1.2
   obtain rfl:=Nat.eq_of_beq_eq_true h1.1
   exact rU
  ·have hs:=h1.2
   obtain rfl:=Nat.eq_of_beq_eq_true h1.1
   exact rT
 ·have h1:=List.all_eq_true.1 zA (t,i) h
  simp[he] at h1
def tD (key:Nat):Sm:=⟨145,key,[.one (.int .i64)],[.agg kSc],false⟩
def sW (n:Int):List Dt:=[.z ((vbel (opI .shr .u64 18446744073709551615 (opI .sub .i64 64 n))).ul),.z ((vbel (opI .shr .u64 18446744073709551615 (opI .sub .i64 64 n))).uh),.z ((vbel (opI .shr .u64 18446744073709551615 (opI .sub .i64 64 n))).sl),.z ((vbel (opI .shr .u64 18446744073709551615 (opI .sub .i64 64 n))).sh),.z ((vbel (opI .shr .u64 18446744073709551615 (opI .sub .i64 64 n))).v),.z ((vbel (opI .shr .u64 18446744073709551615 (opI .sub .i64 64 n))).m)]
def lM:List Dt→List Dt
 | [.z x0]=>sW x0
 | _=>[]
def sT_vbel:Tr:=
(.br (.lt (.bin .sub .i64 (.lit 64) (.var 0)) (.lit 0))
.panic
(.call 0 (kRg) .nil 1
(.call 1 (kSc) (.cons (.var 1) (.cons (.bin .shr .u64 (.lit 18446744073709551615) (.bin .sub .i64 (.lit 64) (.var 0))) (.vs 3 2 (.cons (.lit 0) (.cons (.bin .shr .u64 (.lit 18446744073709551615) (.bin .sub .i64 (.lit 64) (.var 0))) .nil))))) 5
(.leaf (.vs 5 6 .nil)))))
def abd:Spec:={F:=fun k=>match k with | 0=>bt | 1=>bY | _=>fun _=>[],pre:=fun k=>match k with | _=>fun _=>True}
set_option maxRecDepth 100000 in
theorem ahN:am tys_VyB [eB 0,fA 1] [] [] [] 200 Tryz.f145 [.one (.int .i64)] [.agg kSc] false [.int .i64] sT_vbel:=⟨by kernel_rfl,by kernel_rfl,by kernel_rfl⟩
def lr:List Dt→Prop
 | [.z x0]=>let f (n:Int):Prop:= -64≤n∧n≤64; f x0
 | _=>False
set_option maxRecDepth 100000 in
set_option maxHeartbeats 8000000 in
theorem ahd (n:Int) (hn:inK .i64 n=true) (hp:lr [.z n]) (ρ:Env) (g:af ρ 0 [.int .i64]=[.z n]):sT_vbel.asks abd (fun ρ e=>e.D ρ=lM [.z n]) ρ fun _ _=>False:=by
 simp only[lr,b2i_one,aj,Prog.eta,Ins.eta,aa,ab] at hp
 simp only[af,varD,List.cons.injEq,Dt.z.injEq,Dt.l.injEq,b2i_eq_iff,Nat.reduceAdd,and_true] at g
 simp only[sT_vbel,abd,kRg,kSc,bt,bY,fz,lM,sW,Tr.asks,ai,okDs,okD,eqs,E.I,E.B,E.L,E.R,E.D,E.vs,E.gs,E.ins,E.sv,E.tn,E.iv,E.zs,E.pv,Nat.reduceSub,dI,dB,dL,varD,af,S1,Nat.reduceAdd,-eq_self,aj,Prog.eta,Ins.eta,aa,ab,g]
 constructor<;>intro c0
 ·(have h:IntKind.i64.wrap (64-n)<0:=of_decide_eq_true c0; have gn:=ey hn; rw[cy] at h; omega)
 intro e; (try simp only[e,aj,Prog.eta,Ins.eta,aa,ab,-eq_self]); clear e
 intro e; (try simp only[e,aj,Prog.eta,Ins.eta,aa,ab,-eq_self]); clear e
 ·rfl
theorem aii {sp:Spec} {key:Nat} (hF:sp.F key=lM) (hP:sp.pre key=lr):SmOk Tryz.prog sp (tD key):=
 an (s:=tD key) hF hP (by kernel_rfl) eL (smc (fY rfl) (smc (kD rfl) sm0)) Tryz.func145 fn0 ahN (.inl rfl) (fun x0 gx0 hp ρ g=>ahd x0 gx0 hp ρ g)
def abG (key:Nat):Sm:=⟨81,key,[.one (.int .i64)],[.agg kSc],false⟩
def aaS (q:Int):List Dt:=[.z ((vbyt q).ul),.z ((vbyt q).uh),.z ((vbyt q).sl),.z ((vbyt q).sh),.z ((vbyt q).v),.z ((vbyt q).m)]
def rj:List Dt→List Dt
 | [.z x0]=>aaS x0
 | _=>[]
def sT_vby:Tr:=
(.call 0 (kSc) (.cons (.bin .mul .i64 (.lit 8) (.mn (.mx (.var 0) (.lit 1)) (.lit 8))) .nil) 1
(.leaf (.vs 1 6 .nil)))
def afS:Spec:={F:=fun k=>match k with | 0=>lM | _=>fun _=>[],pre:=fun k=>match k with | 0=>lr | _=>fun _=>True}
set_option maxRecDepth 100000 in
theorem ake:am tys_VyB [tD 0] [] [] [] 200 Tryz.f81 [.one (.int .i64)] [.agg kSc] false [.int .i64] sT_vby:=⟨by kernel_rfl,by kernel_rfl,by kernel_rfl⟩
set_option maxRecDepth 100000 in
set_option maxHeartbeats 8000000 in
theorem ajV (q:Int) (hq:inK .i64 q=true) (ρ:Env) (g:af ρ 0 [.int .i64]=[.z q]):sT_vby.asks afS (fun ρ e=>e.D ρ=rj [.z q]) ρ fun _ _=>False:=by
 simp only[af,varD,List.cons.injEq,Dt.z.injEq,Dt.l.injEq,b2i_eq_iff,Nat.reduceAdd,and_true] at g
 simp only[sT_vby,afS,kSc,lM,sW,rj,aaS,lr,Tr.asks,ai,okDs,okD,eqs,E.I,E.B,E.L,E.R,E.D,E.vs,E.gs,E.ins,E.sv,E.tn,E.iv,E.zs,E.pv,Nat.reduceSub,dI,dB,dL,varD,af,S1,Nat.reduceAdd,-eq_self,aj,Prog.eta,Ins.eta,aa,ab,g]
 refine⟨?_,?_⟩
 ·(show -64≤IntKind.i64.wrap (8*min (max q 1) 8)∧IntKind.i64.wrap (8*min (max q 1) 8)≤64; rw[cy]; omega)
 intro e; (try simp only[e,aj,Prog.eta,Ins.eta,aa,ab,-eq_self]); clear e
 ·(refine alC ?_; unfold vbyt; rcases uG q with h | h | h | h | h | h | h | h<;>rw[h]<;>rfl)
theorem aky {sp:Spec} {key:Nat} (hF:sp.F key=rj) (hP:sp.pre key=fun _=>True:=by rfl):SmOk Tryz.prog sp (abG key):=
 an (s:=abG key) hF hP (by kernel_rfl) eL (smc (aii rfl rfl) sm0) Tryz.func81 fn0 ake (.inl rfl) (fun x0 gx0 hp ρ g=>ajV x0 gx0 ρ g)
def xS (key:Nat):Sm:=⟨77,key,[.one (.int .u64)],[.one (.int .i64)],false⟩
def xN (x:Int):List Dt:=[.z (tzI x)]
def lP:List Dt→List Dt
 | [.z x0]=>xN x0
 | _=>[]
def sT_tz:Tr:=
(.call 0 [.int .i64] (.cons (.var 0) .nil) 1
(.leaf (.cons (.var 1) .nil)))
def aku:Spec:={F:=fun k=>match k with | 0=>dC | _=>fun _=>[],pre:=fun k=>match k with | _=>fun _=>True,hw:=sHw,hx:=sHx,hi:=sHi}
set_option maxRecDepth 100000 in
theorem alP:am tys_VyB [ly 0] [] [] [] 200 Tryz.f77 [.one (.int .u64)] [.one (.int .i64)] false [.int .u64] sT_tz:=⟨by kernel_rfl,by kernel_rfl,by kernel_rfl⟩
set_option maxRecDepth 100000 in
set_option maxHeartbeats 8000000 in
theorem alL (x:Int) (hx:inK .u64 x=true) (ρ:Env) (g:af ρ 0 [.int .u64]=[.z x]):sT_tz.asks aku (fun ρ e=>e.D ρ=lP [.z x]) ρ fun _ _=>False:=by
 simp only[af,varD,List.cons.injEq,Dt.z.injEq,Dt.l.injEq,b2i_eq_iff,Nat.reduceAdd,and_true] at g
 simp only[sT_tz,aku,dC,lh,lP,xN,Tr.asks,ai,okDs,okD,eqs,E.I,E.B,E.L,E.R,E.D,E.vs,E.gs,E.ins,E.sv,E.tn,E.iv,E.zs,E.pv,Nat.reduceSub,dI,dB,dL,varD,af,S1,Nat.reduceAdd,-eq_self,aj,Prog.eta,Ins.eta,aa,ab,g]
 intro e; (try simp only[e,aj,Prog.eta,Ins.eta,aa,ab,-eq_self]); clear e
 ·(simp only[dC]; try rfl)
theorem aeJ {sp:Spec} {key:Nat} (hF:sp.F key=lP) (hP:sp.pre key=fun _=>True:=by rfl) (hH:∀w,sp.hw w→sHw w:=by exact fun _ h=>h):SmOk Tryz.prog sp (xS key):=
 an (s:=xS key) (hW:=hH) hF hP (by kernel_rfl) eL (smc (pm rfl) sm0) Tryz.func77 fn0 alP (.inl rfl) (fun x0 gx0 hp ρ g=>alL x0 gx0 ρ g)
def ju (key:Nat):Sm:=⟨85,key,[.one (.int .i8)],[.one (.int .i8),.one .bool],true⟩
def jo (cc:Int):List Dt:=[.z (jP cc),.z (b2i (jQ cc))]
def db:List Dt→List Dt
 | [.z x0]=>jo x0
 | _=>[]
def sT_bnot:Tr:=
(.br (.lt (.var 0) (.lit 0))
(.leaf (.cons (.lit 0) (.consb (.tt false) .nil)))
(.br (.lt (.var 0) (.lit 10))
(.br (.eq (.var 0) (.lit 0))
(.leaf (.cons (.lit 1) (.consb (.tt true) .nil)))
(.br (.eq (.var 0) (.lit 1))
(.leaf (.cons (.lit 0) (.consb (.tt true) .nil)))
(.br (.eq (.var 0) (.lit 2))
(.leaf (.cons (.lit 5) (.consb (.tt true) .nil)))
(.br (.eq (.var 0) (.lit 3))
(.leaf (.cons (.lit 4) (.consb (.tt true) .nil)))
(.br (.eq (.var 0) (.lit 4))
(.leaf (.cons (.lit 3) (.consb (.tt true) .nil)))
(.br (.eq (.var 0) (.lit 5))
(.leaf (.cons (.lit 2) (.consb (.tt true) .nil)))
(.br (.eq (.var 0) (.lit 6))
(.leaf (.cons (.lit 9) (.consb (.tt true) .nil)))
(.br (.eq (.var 0) (.lit 7))
(.leaf (.cons (.lit 8) (.consb (.tt true) .nil)))
(.br (.eq (.var 0) (.lit 8))
(.leaf (.cons (.lit 7) (.consb (.tt true) .nil)))
(.br (.eq (.var 0) (.lit 9))
(.leaf (.cons (.lit 6) (.consb (.tt true) .nil)))
.panic))))))))))
(.leaf (.cons (.lit 0) (.consb (.tt false) .nil)))))
def abE:Spec:={F:=fun k=>match k with | _=>fun _=>[],pre:=fun k=>match k with | _=>fun _=>True}
set_option maxRecDepth 100000 in
theorem aid:am tys_VyB [] [] [] [] 200 Tryz.f85 [.one (.int .i8)] [.one (.int .i8),.one .bool] true [.int .i8] sT_bnot:=⟨by kernel_rfl,by kernel_rfl,by kernel_rfl⟩
set_option maxRecDepth 100000 in
set_option maxHeartbeats 8000000 in
theorem ahD (cc:Int) (hcc:inK .i8 cc=true) (ρ:Env) (g:af ρ 0 [.int .i8]=[.z cc]):sT_bnot.asks abE (fun ρ e=>e.D ρ=db [.z cc]) ρ fun _ _=>False:=by
 simp only[af,varD,List.cons.injEq,Dt.z.injEq,Dt.l.injEq,b2i_eq_iff,Nat.reduceAdd,and_true] at g
 simp only[sT_bnot,abE,db,jo,Tr.asks,ai,okDs,okD,eqs,E.I,E.B,E.L,E.R,E.D,E.vs,E.gs,E.ins,E.sv,E.tn,E.iv,E.zs,E.pv,Nat.reduceSub,dI,dB,dL,varD,af,S1,Nat.reduceAdd,-eq_self,aj,Prog.eta,Ins.eta,aa,ab,g]
 constructor<;>intro c0
 ·(unfold jP jQ; simp_all<;>omega)
 constructor<;>intro c1
 constructor<;>intro c2
 ·(unfold jP jQ; simp_all<;>omega)
 constructor<;>intro c3
 ·(unfold jP jQ; simp_all<;>omega)
 constructor<;>intro c4
 ·(unfold jP jQ; simp_all<;>omega)
 constructor<;>intro c5
 ·(unfold jP jQ; simp_all<;>omega)
 constructor<;>intro c6
 ·(unfold jP jQ; simp_all<;>omega)
 constructor<;>intro c7
 ·(unfold jP jQ; simp_all<;>omega)
 constructor<;>intro c8
 ·(unfold jP jQ; simp_all<;>omega)
 constructor<;>intro c9
 ·(unfold jP jQ; simp_all<;>omega)
 constructor<;>intro c10
 ·(unfold jP jQ; simp_all<;>omega)
 constructor<;>intro c11
 ·(unfold jP jQ; simp_all<;>omega)
 ·(simp_all; omega)
 ·(unfold jP jQ; simp_all<;>omega)
theorem po {sp:Spec} {key:Nat} (hF:sp.F key=db) (hP:sp.pre key=fun _=>True:=by rfl):SmOk Tryz.prog sp (ju key):=
 an (s:=ju key) hF hP (by kernel_rfl) eL (sm0) Tryz.func85 fn0 aid (.inl rfl) (fun x0 gx0 hp ρ g=>ahD x0 gx0 ρ g)
def jr (key:Nat):Sm:=⟨79,key,[.one (.el (kN 9 220090000) 39),.agg kTy,.agg kTy],[.agg kTy],false⟩
def jl (x:List (List Int)) (a:Ty) (b:Ty):List Dt:=d_Ty (valu (ae x 0) a b) ([])
def cX:List Dt→List Dt
 | [.l x0,.z x1,.z x2,.z x3,.z x4,.z x5,.z x6,.z x7,.z x8,.z x9,.z x10,.z x11,.z x12,.z x13,.z x14,.z x15,.z x16,.z x17,.z x18]=>jl x0 ⟨x1,x2,x3,x4,x5,x6,x7,x8,x9⟩ ⟨x10,x11,x12,x13,x14,x15,x16,x17,x18⟩
 | _=>[]
set_option maxRecDepth 100000 in
def sT_valu:Tr:=
(.br (.lt (.lit 0) (.len (.lvar 0)))
(.br (.eq (.get (.lvar 0) (.lit 0) 1) (.lit 11))
(.br (.eq (.get (.lvar 0) (.lit 0) 2) (.lit 64))
(.leaf (.vs 10 9 .nil))
(.br (.eq (.var 10) (.lit 2))
(.call 2 (kSc) (.cons (.lit 4) .nil) 19
(.leaf (.cons (.lit 1) (.vs 19 6 (.cons (.lit 0) (.cons (.lit 0) .nil))))))
(.br (.eq (.var 10) (.lit 3))
(.call 2 (kSc) (.cons (.lit 4) .nil) 19
(.leaf (.cons (.lit 1) (.vs 19 6 (.cons (.lit 0) (.cons (.lit 0) .nil))))))
(.call 1 (kSc) (.cons (.get (.lvar 0) (.lit 0) 1) (.cons (.get (.lvar 0) (.lit 0) 2) (.vs 11 6 (.vs 11 6 .nil)))) 19
(.leaf (.cons (.lit 1) (.vs 19 6 (.cons (.lit 0) (.cons (.lit 0) .nil)))))))))
(.br (.eq (.get (.lvar 0) (.lit 0) 1) (.lit 8))
(.call 0 (kSc) (.cons (.lit 0) .nil) 19
(.br (.eq (.var 1) (.lit 2))
(.br (.eq (.get (.lvar 0) (.lit 0) 2) (.lit 64))
(.call 3 (kTy) .nil 25
(.leaf (.vs 25 9 .nil)))
(.call 2 (kSc) (.cons (.lit 4) .nil) 25
(.leaf (.cons (.lit 1) (.vs 25 6 (.cons (.lit 0) (.cons (.lit 0) .nil)))))))
(.br (.eq (.var 1) (.lit 3))
(.br (.eq (.get (.lvar 0) (.lit 0) 2) (.lit 64))
(.call 3 (kTy) .nil 25
(.leaf (.vs 25 9 .nil)))
(.call 2 (kSc) (.cons (.lit 4) .nil) 25
(.leaf (.cons (.lit 1) (.vs 25 6 (.cons (.lit 0) (.cons (.lit 0) .nil)))))))
(.call 1 (kSc) (.cons (.get (.lvar 0) (.lit 0) 1) (.cons (.get (.lvar 0) (.lit 0) 2) (.vs 2 6 (.vs 19 6 .nil)))) 25
(.leaf (.cons (.lit 1) (.vs 25 6 (.cons (.lit 0) (.cons (.lit 0) .nil)))))))))
(.br (.eq (.var 1) (.lit 2))
(.br (.eq (.get (.lvar 0) (.lit 0) 2) (.lit 64))
(.br (.eq (.var 10) (.lit 2))
(.call 3 (kTy) .nil 19
(.leaf (.vs 19 9 .nil)))
(.br (.eq (.var 10) (.lit 3))
(.call 3 (kTy) .nil 19
(.leaf (.vs 19 9 .nil)))
(.br (.eq (.get (.lvar 0) (.lit 0) 1) (.lit 0))
(.br (.lt (.var 13) (.lit (-1048576)))
(.call 3 (kTy) .nil 19
(.leaf (.vs 19 9 .nil)))
(.br (.lt (.lit 1048576) (.var 14))
(.call 3 (kTy) .nil 19
(.leaf (.vs 19 9 .nil)))
(.br (.lt (.bin .add .i64 (.var 8) (.var 13)) (.lit (-1048576)))
(.call 3 (kTy) .nil 19
(.leaf (.vs 19 9 .nil)))
(.br (.lt (.lit 1048576) (.bin .add .i64 (.var 8) (.var 13)))
(.call 3 (kTy) .nil 19
(.leaf (.vs 19 9 .nil)))
(.br (.lt (.bin .add .i64 (.var 9) (.var 14)) (.lit (-1048576)))
(.call 3 (kTy) .nil 19
(.leaf (.vs 19 9 .nil)))
(.br (.lt (.lit 1048576) (.bin .add .i64 (.var 9) (.var 14)))
(.call 3 (kTy) .nil 19
(.leaf (.vs 19 9 .nil)))
(.leaf (.vs 1 7 (.cons (.bin .add .i64 (.var 8) (.var 13)) (.cons (.bin .add .i64 (.var 9) (.var 14)) .nil))))))))))
(.br (.eq (.get (.lvar 0) (.lit 0) 1) (.lit 1))
(.br (.lt (.var 13) (.lit (-1048576)))
(.call 3 (kTy) .nil 19
(.leaf (.vs 19 9 .nil)))
(.br (.lt (.lit 1048576) (.var 14))
(.call 3 (kTy) .nil 19
(.leaf (.vs 19 9 .nil)))
(.br (.lt (.bin .add .i64 (.var 8) (.bin .sub .i64 (.lit 0) (.var 14))) (.lit (-1048576)))
(.call 3 (kTy) .nil 19
(.leaf (.vs 19 9 .nil)))
(.br (.lt (.lit 1048576) (.bin .add .i64 (.var 8) (.bin .sub .i64 (.lit 0) (.var 14))))
(.call 3 (kTy) .nil 19
(.leaf (.vs 19 9 .nil)))
(.br (.lt (.bin .add .i64 (.var 9) (.bin .sub .i64 (.lit 0) (.var 13))) (.lit (-1048576)))
(.call 3 (kTy) .nil 19
(.leaf (.vs 19 9 .nil)))
(.br (.lt (.lit 1048576) (.bin .add .i64 (.var 9) (.bin .sub .i64 (.lit 0) (.var 13))))
(.call 3 (kTy) .nil 19
(.leaf (.vs 19 9 .nil)))
(.leaf (.vs 1 7 (.cons (.bin .add .i64 (.var 8) (.bin .sub .i64 (.lit 0) (.var 14))) (.cons (.bin .add .i64 (.var 9) (.bin .sub .i64 (.lit 0) (.var 13))) .nil))))))))))
(.call 3 (kTy) .nil 19
(.leaf (.vs 19 9 .nil)))))))
(.call 2 (kSc) (.cons (.lit 4) .nil) 19
(.leaf (.cons (.lit 1) (.vs 19 6 (.cons (.lit 0) (.cons (.lit 0) .nil)))))))
(.br (.eq (.var 1) (.lit 3))
(.br (.eq (.get (.lvar 0) (.lit 0) 2) (.lit 64))
(.br (.eq (.var 10) (.lit 2))
(.call 3 (kTy) .nil 19
(.leaf (.vs 19 9 .nil)))
(.br (.eq (.var 10) (.lit 3))
(.call 3 (kTy) .nil 19
(.leaf (.vs 19 9 .nil)))
(.br (.eq (.get (.lvar 0) (.lit 0) 1) (.lit 0))
(.br (.lt (.var 13) (.lit (-1048576)))
(.call 3 (kTy) .nil 19
(.leaf (.vs 19 9 .nil)))
(.br (.lt (.lit 1048576) (.var 14))
(.call 3 (kTy) .nil 19
(.leaf (.vs 19 9 .nil)))
(.br (.lt (.bin .add .i64 (.var 8) (.var 13)) (.lit (-1048576)))
(.call 3 (kTy) .nil 19
(.leaf (.vs 19 9 .nil)))
(.br (.lt (.lit 1048576) (.bin .add .i64 (.var 8) (.var 13)))
(.call 3 (kTy) .nil 19
(.leaf (.vs 19 9 .nil)))
(.br (.lt (.bin .add .i64 (.var 9) (.var 14)) (.lit (-1048576)))
(.call 3 (kTy) .nil 19
(.leaf (.vs 19 9 .nil)))
(.br (.lt (.lit 1048576) (.bin .add .i64 (.var 9) (.var 14)))
(.call 3 (kTy) .nil 19
(.leaf (.vs 19 9 .nil)))
(.leaf (.vs 1 7 (.cons (.bin .add .i64 (.var 8) (.var 13)) (.cons (.bin .add .i64 (.var 9) (.var 14)) .nil))))))))))
(.br (.eq (.get (.lvar 0) (.lit 0) 1) (.lit 1))
(.br (.lt (.var 13) (.lit (-1048576)))
(.call 3 (kTy) .nil 19
(.leaf (.vs 19 9 .nil)))
(.br (.lt (.lit 1048576) (.var 14))
(.call 3 (kTy) .nil 19
(.leaf (.vs 19 9 .nil)))
(.br (.lt (.bin .add .i64 (.var 8) (.bin .sub .i64 (.lit 0) (.var 14))) (.lit (-1048576)))
(.call 3 (kTy) .nil 19
(.leaf (.vs 19 9 .nil)))
(.br (.lt (.lit 1048576) (.bin .add .i64 (.var 8) (.bin .sub .i64 (.lit 0) (.var 14))))
(.call 3 (kTy) .nil 19
(.leaf (.vs 19 9 .nil)))
(.br (.lt (.bin .add .i64 (.var 9) (.bin .sub .i64 (.lit 0) (.var 13))) (.lit (-1048576)))
(.call 3 (kTy) .nil 19
(.leaf (.vs 19 9 .nil)))
(.br (.lt (.lit 1048576) (.bin .add .i64 (.var 9) (.bin .sub .i64 (.lit 0) (.var 13))))
(.call 3 (kTy) .nil 19
(.leaf (.vs 19 9 .nil)))
(.leaf (.vs 1 7 (.cons (.bin .add .i64 (.var 8) (.bin .sub .i64 (.lit 0) (.var 14))) (.cons (.bin .add .i64 (.var 9) (.bin .sub .i64 (.lit 0) (.var 13))) .nil))))))))))
(.call 3 (kTy) .nil 19
(.leaf (.vs 19 9 .nil)))))))
(.call 2 (kSc) (.cons (.lit 4) .nil) 19
(.leaf (.cons (.lit 1) (.vs 19 6 (.cons (.lit 0) (.cons (.lit 0) .nil)))))))
(.br (.eq (.var 10) (.lit 2))
(.br (.eq (.get (.lvar 0) (.lit 0) 2) (.lit 64))
(.br (.eq (.get (.lvar 0) (.lit 0) 1) (.lit 0))
(.br (.lt (.var 4) (.lit (-1048576)))
(.call 3 (kTy) .nil 19
(.leaf (.vs 19 9 .nil)))
(.br (.lt (.lit 1048576) (.var 5))
(.call 3 (kTy) .nil 19
(.leaf (.vs 19 9 .nil)))
(.br (.lt (.bin .add .i64 (.var 17) (.var 4)) (.lit (-1048576)))
(.call 3 (kTy) .nil 19
(.leaf (.vs 19 9 .nil)))
(.br (.lt (.lit 1048576) (.bin .add .i64 (.var 17) (.var 4)))
(.call 3 (kTy) .nil 19
(.leaf (.vs 19 9 .nil)))
(.br (.lt (.bin .add .i64 (.var 18) (.var 5)) (.lit (-1048576)))
(.call 3 (kTy) .nil 19
(.leaf (.vs 19 9 .nil)))
(.br (.lt (.lit 1048576) (.bin .add .i64 (.var 18) (.var 5)))
(.call 3 (kTy) .nil 19
(.leaf (.vs 19 9 .nil)))
(.leaf (.vs 10 7 (.cons (.bin .add .i64 (.var 17) (.var 4)) (.cons (.bin .add .i64 (.var 18) (.var 5)) .nil))))))))))
(.call 3 (kTy) .nil 19
(.leaf (.vs 19 9 .nil))))
(.call 2 (kSc) (.cons (.lit 4) .nil) 19
(.leaf (.cons (.lit 1) (.vs 19 6 (.cons (.lit 0) (.cons (.lit 0) .nil)))))))
(.br (.eq (.var 10) (.lit 3))
(.br (.eq (.get (.lvar 0) (.lit 0) 2) (.lit 64))
(.br (.eq (.get (.lvar 0) (.lit 0) 1) (.lit 0))
(.br (.lt (.var 4) (.lit (-1048576)))
(.call 3 (kTy) .nil 19
(.leaf (.vs 19 9 .nil)))
(.br (.lt (.lit 1048576) (.var 5))
(.call 3 (kTy) .nil 19
(.leaf (.vs 19 9 .nil)))
(.br (.lt (.bin .add .i64 (.var 17) (.var 4)) (.lit (-1048576)))
(.call 3 (kTy) .nil 19
(.leaf (.vs 19 9 .nil)))
(.br (.lt (.lit 1048576) (.bin .add .i64 (.var 17) (.var 4)))
(.call 3 (kTy) .nil 19
(.leaf (.vs 19 9 .nil)))
(.br (.lt (.bin .add .i64 (.var 18) (.var 5)) (.lit (-1048576)))
(.call 3 (kTy) .nil 19
(.leaf (.vs 19 9 .nil)))
(.br (.lt (.lit 1048576) (.bin .add .i64 (.var 18) (.var 5)))
(.call 3 (kTy) .nil 19
(.leaf (.vs 19 9 .nil)))
(.leaf (.vs 10 7 (.cons (.bin .add .i64 (.var 17) (.var 4)) (.cons (.bin .add .i64 (.var 18) (.var 5)) .nil))))))))))
(.call 3 (kTy) .nil 19
(.leaf (.vs 19 9 .nil))))
(.call 2 (kSc) (.cons (.lit 4) .nil) 19
(.leaf (.cons (.lit 1) (.vs 19 6 (.cons (.lit 0) (.cons (.lit 0) .nil)))))))
(.call 1 (kSc) (.cons (.get (.lvar 0) (.lit 0) 1) (.cons (.get (.lvar 0) (.lit 0) 2) (.vs 2 6 (.vs 11 6 .nil)))) 19
(.leaf (.cons (.lit 1) (.vs 19 6 (.cons (.lit 0) (.cons (.lit 0) .nil))))))))))))
(.stuck 54))
def abe:Spec:={F:=fun k=>match k with | 0=>bo | 1=>ri | 2=>rj | 3=>iA | _=>fun _=>[],pre:=fun k=>match k with | _=>fun _=>True}
set_option maxRecDepth 100000 in
theorem ahO:am tys_VyB [eh 0,abF 1,abG 2,oZ 3] [(53,Tryz.f53,[],[]),(78,Tryz.f78,[],[]),(144,Tryz.f144,[],[]),(55,Tryz.f55,[],[])] [(999997,[])] [] 200 Tryz.f79 [.one (.el (kN 9 220090000) 39),.agg kTy,.agg kTy] [.agg kTy] false (.list (kN 9 220090000)::(v_Ty (v_Ty ([])))) sT_valu:=⟨by kernel_rfl,by kernel_rfl,by kernel_rfl⟩
def cH:List Dt→Prop
 | [.l x0,.z x1,.z x2,.z x3,.z x4,.z x5,.z x6,.z x7,.z x8,.z x9,.z x10,.z x11,.z x12,.z x13,.z x14,.z x15,.z x16,.z x17,.z x18]=>let f (x:List (List Int)) (a:Ty) (b:Ty):Prop:=x.length=1; f x0 ⟨x1,x2,x3,x4,x5,x6,x7,x8,x9⟩ ⟨x10,x11,x12,x13,x14,x15,x16,x17,x18⟩
 | _=>False
set_option maxRecDepth 100000 in
set_option maxHeartbeats 8000000 in
theorem ahe (x:List (List Int)) (hx:RowsIn (kN 9 220090000) x) (a:Ty) (ha:Ty.ok a) (b:Ty) (hb:Ty.ok b) (hp:cH (.l x::(d_Ty a (d_Ty b ([]))))) (ρ:Env) (g:af ρ 0 (.list (kN 9 220090000)::(v_Ty (v_Ty ([]))))=(.l x::(d_Ty a (d_Ty b ([]))))):sT_valu.asks abe (fun ρ e=>e.D ρ=cX (.l x::(d_Ty a (d_Ty b ([]))))) ρ fun _ _=>False:=by
 simp only[cH,d_Ty,b2i_one,aj,Prog.eta,Ins.eta,aa,ab] at hp
 simp only[d_Ty,v_Ty,af,varD,List.cons.injEq,Dt.z.injEq,Dt.l.injEq,b2i_eq_iff,Nat.reduceAdd,and_true] at g
 simp only[sT_valu,abe,d_Ty,kSc,kTy,bo,ri,rj,iA,ef,aaR,aaS,cX,jl,Tr.asks,ai,okDs,okD,eqs,E.I,E.B,E.L,E.R,E.D,E.vs,E.gs,E.ins,E.sv,E.tn,E.iv,E.zs,E.pv,Nat.reduceSub,dI,dB,dL,varD,af,S1,Nat.reduceAdd,-eq_self,aj,Prog.eta,Ins.eta,aa,ab,g]
 constructor<;>intro c0
 constructor<;>intro c1
 constructor<;>intro c2
 ·rw[va_m c1 c2]; try rfl
 constructor<;>intro c3
 intro e; (try simp only[e,aj,Prog.eta,Ins.eta,aa,ab,-eq_self]); clear e
 ·rw[va_o c1 c2,of_2 (op:=(ae x 0).op) (w:=(ae x 0).w) (.inl (pT c3)) c2]; try rfl
 constructor<;>intro c4
 intro e; (try simp only[e,aj,Prog.eta,Ins.eta,aa,ab,-eq_self]); clear e
 ·rw[va_o c1 c2,of_2 (op:=(ae x 0).op) (w:=(ae x 0).w) (.inl (pU c4)) c2]; try rfl
 intro e; (try simp only[e,aj,Prog.eta,Ins.eta,aa,ab,-eq_self]); clear e
 ·rw[va_o c1 c2,of_1 (op:=(ae x 0).op) (w:=(ae x 0).w) (pF c3 c4) (pF c3 c4)]; try rfl
 constructor<;>intro c5
 intro e; (try simp only[e,aj,Prog.eta,Ins.eta,aa,ab,-eq_self]); clear e
 constructor<;>intro c6
 constructor<;>intro c7
 intro e; (try simp only[e,aj,Prog.eta,Ins.eta,aa,ab,-eq_self]); clear e
 ·rw[va_n c1 c5,of_8 (op:=(ae x 0).op) (w:=(ae x 0).w) (pT c6) c7 c5]; try rfl
 intro e; (try simp only[e,aj,Prog.eta,Ins.eta,aa,ab,-eq_self]); clear e
 ·rw[va_n c1 c5,of_2 (op:=(ae x 0).op) (w:=(ae x 0).w) (.inl (pT c6)) c7]; try rfl
 constructor<;>intro c8
 constructor<;>intro c9
 intro e; (try simp only[e,aj,Prog.eta,Ins.eta,aa,ab,-eq_self]); clear e
 ·rw[va_n c1 c5,of_8 (op:=(ae x 0).op) (w:=(ae x 0).w) (pU c8) c9 c5]; try rfl
 intro e; (try simp only[e,aj,Prog.eta,Ins.eta,aa,ab,-eq_self]); clear e
 ·rw[va_n c1 c5,of_2 (op:=(ae x 0).op) (w:=(ae x 0).w) (.inl (pU c8)) c9]; try rfl
 intro e; (try simp only[e,aj,Prog.eta,Ins.eta,aa,ab,-eq_self]); clear e
 ·rw[va_n c1 c5,of_1 (op:=(ae x 0).op) (w:=(ae x 0).w) (pF c6 c8) rfl]; try rfl
 constructor<;>intro c10
 constructor<;>intro c11
 constructor<;>intro c12
 intro e; (try simp only[e,aj,Prog.eta,Ins.eta,aa,ab,-eq_self]); clear e
 ·rw[va_e c1 c5,of_5 (op:=(ae x 0).op) (w:=(ae x 0).w) (pT c10) (pT c12) c11]; try rfl
 constructor<;>intro c13
 intro e; (try simp only[e,aj,Prog.eta,Ins.eta,aa,ab,-eq_self]); clear e
 ·rw[va_e c1 c5,of_5 (op:=(ae x 0).op) (w:=(ae x 0).w) (pT c10) (pU c13) c11]; try rfl
 constructor<;>intro c14
 constructor<;>intro c15
 intro e; (try simp only[e,aj,Prog.eta,Ins.eta,aa,ab,-eq_self]); clear e
 ·rw[va_e c1 c5,of_3 (op:=(ae x 0).op) (w:=(ae x 0).w) (pT c10) (pF c12 c13) c11 (.inl (eqI c14)),show((ae x 0).op==1)=false by rw[show(ae x 0).op=0 from eqI c14]; rfl,bn (t:=a) (s:=b.s) (b:=false) (.inl (of_decide_eq_true c15))]; try rfl
 constructor<;>intro c16
 intro e; (try simp only[e,aj,Prog.eta,Ins.eta,aa,ab,-eq_self]); clear e
 ·rw[va_e c1 c5,of_3 (op:=(ae x 0).op) (w:=(ae x 0).w) (pT c10) (pF c12 c13) c11 (.inl (eqI c14)),show((ae x 0).op==1)=false by rw[show(ae x 0).op=0 from eqI c14]; rfl,bn (t:=a) (s:=b.s) (b:=false) (.inr (.inl (of_decide_eq_true c16)))]; try rfl
 constructor<;>intro c17
 intro e; (try simp only[e,aj,Prog.eta,Ins.eta,aa,ab,-eq_self]); clear e
 ·rw[va_e c1 c5,of_3 (op:=(ae x 0).op) (w:=(ae x 0).w) (pT c10) (pF c12 c13) c11 (.inl (eqI c14)),show((ae x 0).op==1)=false by rw[show(ae x 0).op=0 from eqI c14]; rfl,bn (t:=a) (s:=b.s) (b:=false) (.inr (.inr (.inl (of_decide_eq_true c17))))]; try rfl
 constructor<;>intro c18
 intro e; (try simp only[e,aj,Prog.eta,Ins.eta,aa,ab,-eq_self]); clear e
 ·rw[va_e c1 c5,of_3 (op:=(ae x 0).op) (w:=(ae x 0).w) (pT c10) (pF c12 c13) c11 (.inl (eqI c14)),show((ae x 0).op==1)=false by rw[show(ae x 0).op=0 from eqI c14]; rfl,bn (t:=a) (s:=b.s) (b:=false) (.inr (.inr (.inr (.inl (of_decide_eq_true c18)))))]; try rfl
 constructor<;>intro c19
 intro e; (try simp only[e,aj,Prog.eta,Ins.eta,aa,ab,-eq_self]); clear e
 ·rw[va_e c1 c5,of_3 (op:=(ae x 0).op) (w:=(ae x 0).w) (pT c10) (pF c12 c13) c11 (.inl (eqI c14)),show((ae x 0).op==1)=false by rw[show(ae x 0).op=0 from eqI c14]; rfl,bn (t:=a) (s:=b.s) (b:=false) (.inr (.inr (.inr (.inr (.inl (of_decide_eq_true c19))))))]; try rfl
 constructor<;>intro c20
 intro e; (try simp only[e,aj,Prog.eta,Ins.eta,aa,ab,-eq_self]); clear e
 ·rw[va_e c1 c5,of_3 (op:=(ae x 0).op) (w:=(ae x 0).w) (pT c10) (pF c12 c13) c11 (.inl (eqI c14)),show((ae x 0).op==1)=false by rw[show(ae x 0).op=0 from eqI c14]; rfl,bn (t:=a) (s:=b.s) (b:=false) (.inr (.inr (.inr (.inr (.inr ((of_decide_eq_true c20)))))))]; try rfl
 ·rw[va_e c1 c5,of_3 (op:=(ae x 0).op) (w:=(ae x 0).w) (pT c10) (pF c12 c13) c11 (.inl (eqI c14)),show((ae x 0).op==1)=false by rw[show(ae x 0).op=0 from eqI c14]; rfl,nF (t:=a) (s:=b.s) (b:=false) (of_decide_eq_false c15) (of_decide_eq_false c16) (of_decide_eq_false c17) (of_decide_eq_false c18) (of_decide_eq_false c19) (of_decide_eq_false c20)]; try rfl
 constructor<;>intro c21
 constructor<;>intro c22
 intro e; (try simp only[e,aj,Prog.eta,Ins.eta,aa,ab,-eq_self]); clear e
 ·rw[va_e c1 c5,of_3 (op:=(ae x 0).op) (w:=(ae x 0).w) (pT c10) (pF c12 c13) c11 (.inr (eqI c21)),show((ae x 0).op==1)=true from c21,bn (t:=a) (s:=b.s) (b:=true) (.inl (of_decide_eq_true c22))]; try rfl
 constructor<;>intro c23
 intro e; (try simp only[e,aj,Prog.eta,Ins.eta,aa,ab,-eq_self]); clear e
 ·rw[va_e c1 c5,of_3 (op:=(ae x 0).op) (w:=(ae x 0).w) (pT c10) (pF c12 c13) c11 (.inr (eqI c21)),show((ae x 0).op==1)=true from c21,bn (t:=a) (s:=b.s) (b:=true) (.inr (.inl (of_decide_eq_true c23)))]; try rfl
 constructor<;>intro c24
 intro e; (try simp only[e,aj,Prog.eta,Ins.eta,aa,ab,-eq_self]); clear e
 ·rw[va_e c1 c5,of_3 (op:=(ae x 0).op) (w:=(ae x 0).w) (pT c10) (pF c12 c13) c11 (.inr (eqI c21)),show((ae x 0).op==1)=true from c21,bn (t:=a) (s:=b.s) (b:=true) (.inr (.inr (.inl (of_decide_eq_true c24))))]; try rfl
 constructor<;>intro c25
 intro e; (try simp only[e,aj,Prog.eta,Ins.eta,aa,ab,-eq_self]); clear e
 ·rw[va_e c1 c5,of_3 (op:=(ae x 0).op) (w:=(ae x 0).w) (pT c10) (pF c12 c13) c11 (.inr (eqI c21)),show((ae x 0).op==1)=true from c21,bn (t:=a) (s:=b.s) (b:=true) (.inr (.inr (.inr (.inl (of_decide_eq_true c25)))))]; try rfl
 constructor<;>intro c26
 intro e; (try simp only[e,aj,Prog.eta,Ins.eta,aa,ab,-eq_self]); clear e
 ·rw[va_e c1 c5,of_3 (op:=(ae x 0).op) (w:=(ae x 0).w) (pT c10) (pF c12 c13) c11 (.inr (eqI c21)),show((ae x 0).op==1)=true from c21,bn (t:=a) (s:=b.s) (b:=true) (.inr (.inr (.inr (.inr (.inl (of_decide_eq_true c26))))))]; try rfl
 constructor<;>intro c27
 intro e; (try simp only[e,aj,Prog.eta,Ins.eta,aa,ab,-eq_self]); clear e
 ·rw[va_e c1 c5,of_3 (op:=(ae x 0).op) (w:=(ae x 0).w) (pT c10) (pF c12 c13) c11 (.inr (eqI c21)),show((ae x 0).op==1)=true from c21,bn (t:=a) (s:=b.s) (b:=true) (.inr (.inr (.inr (.inr (.inr ((of_decide_eq_true c27)))))))]; try rfl
 ·rw[va_e c1 c5,of_3 (op:=(ae x 0).op) (w:=(ae x 0).w) (pT c10) (pF c12 c13) c11 (.inr (eqI c21)),show((ae x 0).op==1)=true from c21,nF (t:=a) (s:=b.s) (b:=true) (of_decide_eq_false c22) (of_decide_eq_false c23) (of_decide_eq_false c24) (of_decide_eq_false c25) (of_decide_eq_false c26) (of_decide_eq_false c27)]; try rfl
 intro e; (try simp only[e,aj,Prog.eta,Ins.eta,aa,ab,-eq_self]); clear e
 ·rw[va_e c1 c5,of_6 (op:=(ae x 0).op) (w:=(ae x 0).w) (pT c10) c11 c14 c21]; try rfl
 intro e; (try simp only[e,aj,Prog.eta,Ins.eta,aa,ab,-eq_self]); clear e
 ·rw[va_e c1 c5,of_2 (op:=(ae x 0).op) (w:=(ae x 0).w) (.inl (pT c10)) c11]; try rfl
 constructor<;>intro c28
 constructor<;>intro c29
 constructor<;>intro c30
 intro e; (try simp only[e,aj,Prog.eta,Ins.eta,aa,ab,-eq_self]); clear e
 ·rw[va_e c1 c5,of_5 (op:=(ae x 0).op) (w:=(ae x 0).w) (pU c28) (pT c30) c29]; try rfl
 constructor<;>intro c31
 intro e; (try simp only[e,aj,Prog.eta,Ins.eta,aa,ab,-eq_self]); clear e
 ·rw[va_e c1 c5,of_5 (op:=(ae x 0).op) (w:=(ae x 0).w) (pU c28) (pU c31) c29]; try rfl
 constructor<;>intro c32
 constructor<;>intro c33
 intro e; (try simp only[e,aj,Prog.eta,Ins.eta,aa,ab,-eq_self]); clear e
 ·rw[va_e c1 c5,of_3 (op:=(ae x 0).op) (w:=(ae x 0).w) (pU c28) (pF c30 c31) c29 (.inl (eqI c32)),show((ae x 0).op==1)=false by rw[show(ae x 0).op=0 from eqI c32]; rfl,bn (t:=a) (s:=b.s) (b:=false) (.inl (of_decide_eq_true c33))]; try rfl
 constructor<;>intro c34
 intro e; (try simp only[e,aj,Prog.eta,Ins.eta,aa,ab,-eq_self]); clear e
 ·rw[va_e c1 c5,of_3 (op:=(ae x 0).op) (w:=(ae x 0).w) (pU c28) (pF c30 c31) c29 (.inl (eqI c32)),show((ae x 0).op==1)=false by rw[show(ae x 0).op=0 from eqI c32]; rfl,bn (t:=a) (s:=b.s) (b:=false) (.inr (.inl (of_decide_eq_true c34)))]; try rfl
 constructor<;>intro c35
 intro e; (try simp only[e,aj,Prog.eta,Ins.eta,aa,ab,-eq_self]); clear e
 ·rw[va_e c1 c5,of_3 (op:=(ae x 0).op) (w:=(ae x 0).w) (pU c28) (pF c30 c31) c29 (.inl (eqI c32)),show((ae x 0).op==1)=false by rw[show(ae x 0).op=0 from eqI c32]; rfl,bn (t:=a) (s:=b.s) (b:=false) (.inr (.inr (.inl (of_decide_eq_true c35))))]; try rfl
 constructor<;>intro c36
 intro e; (try simp only[e,aj,Prog.eta,Ins.eta,aa,ab,-eq_self]); clear e
 ·rw[va_e c1 c5,of_3 (op:=(ae x 0).op) (w:=(ae x 0).w) (pU c28) (pF c30 c31) c29 (.inl (eqI c32)),show((ae x 0).op==1)=false by rw[show(ae x 0).op=0 from eqI c32]; rfl,bn (t:=a) (s:=b.s) (b:=false) (.inr (.inr (.inr (.inl (of_decide_eq_true c36)))))]; try rfl
 constructor<;>intro c37
 intro e; (try simp only[e,aj,Prog.eta,Ins.eta,aa,ab,-eq_self]); clear e
 ·rw[va_e c1 c5,of_3 (op:=(ae x 0).op) (w:=(ae x 0).w) (pU c28) (pF c30 c31) c29 (.inl (eqI c32)),show((ae x 0).op==1)=false by rw[show(ae x 0).op=0 from eqI c32]; rfl,bn (t:=a) (s:=b.s) (b:=false) (.inr (.inr (.inr (.inr (.inl (of_decide_eq_true c37))))))]; try rfl
 constructor<;>intro c38
 intro e; (try simp only[e,aj,Prog.eta,Ins.eta,aa,ab,-eq_self]); clear e
 ·rw[va_e c1 c5,of_3 (op:=(ae x 0).op) (w:=(ae x 0).w) (pU c28) (pF c30 c31) c29 (.inl (eqI c32)),show((ae x 0).op==1)=false by rw[show(ae x 0).op=0 from eqI c32]; rfl,bn (t:=a) (s:=b.s) (b:=false) (.inr (.inr (.inr (.inr (.inr ((of_decide_eq_true c38)))))))]; try rfl
 ·rw[va_e c1 c5,of_3 (op:=(ae x 0).op) (w:=(ae x 0).w) (pU c28) (pF c30 c31) c29 (.inl (eqI c32)),show((ae x 0).op==1)=false by rw[show(ae x 0).op=0 from eqI c32]; rfl,nF (t:=a) (s:=b.s) (b:=false) (of_decide_eq_false c33) (of_decide_eq_false c34) (of_decide_eq_false c35) (of_decide_eq_false c36) (of_decide_eq_false c37) (of_decide_eq_false c38)]; try rfl
 constructor<;>intro c39
 constructor<;>intro c40
 intro e; (try simp only[e,aj,Prog.eta,Ins.eta,aa,ab,-eq_self]); clear e
 ·rw[va_e c1 c5,of_3 (op:=(ae x 0).op) (w:=(ae x 0).w) (pU c28) (pF c30 c31) c29 (.inr (eqI c39)),show((ae x 0).op==1)=true from c39,bn (t:=a) (s:=b.s) (b:=true) (.inl (of_decide_eq_true c40))]; try rfl
 constructor<;>intro c41
 intro e; (try simp only[e,aj,Prog.eta,Ins.eta,aa,ab,-eq_self]); clear e
 ·rw[va_e c1 c5,of_3 (op:=(ae x 0).op) (w:=(ae x 0).w) (pU c28) (pF c30 c31) c29 (.inr (eqI c39)),show((ae x 0).op==1)=true from c39,bn (t:=a) (s:=b.s) (b:=true) (.inr (.inl (of_decide_eq_true c41)))]; try rfl
 constructor<;>intro c42
 intro e; (try simp only[e,aj,Prog.eta,Ins.eta,aa,ab,-eq_self]); clear e
 ·rw[va_e c1 c5,of_3 (op:=(ae x 0).op) (w:=(ae x 0).w) (pU c28) (pF c30 c31) c29 (.inr (eqI c39)),show((ae x 0).op==1)=true from c39,bn (t:=a) (s:=b.s) (b:=true) (.inr (.inr (.inl (of_decide_eq_true c42))))]; try rfl
 constructor<;>intro c43
 intro e; (try simp only[e,aj,Prog.eta,Ins.eta,aa,ab,-eq_self]); clear e
 ·rw[va_e c1 c5,of_3 (op:=(ae x 0).op) (w:=(ae x 0).w) (pU c28) (pF c30 c31) c29 (.inr (eqI c39)),show((ae x 0).op==1)=true from c39,bn (t:=a) (s:=b.s) (b:=true) (.inr (.inr (.inr (.inl (of_decide_eq_true c43)))))]; try rfl
 constructor<;>intro c44
 intro e; (try simp only[e,aj,Prog.eta,Ins.eta,aa,ab,-eq_self]); clear e
 ·rw[va_e c1 c5,of_3 (op:=(ae x 0).op) (w:=(ae x 0).w) (pU c28) (pF c30 c31) c29 (.inr (eqI c39)),show((ae x 0).op==1)=true from c39,bn (t:=a) (s:=b.s) (b:=true) (.inr (.inr (.inr (.inr (.inl (of_decide_eq_true c44))))))]; try rfl
 constructor<;>intro c45
 intro e; (try simp only[e,aj,Prog.eta,Ins.eta,aa,ab,-eq_self]); clear e
 ·rw[va_e c1 c5,of_3 (op:=(ae x 0).op) (w:=(ae x 0).w) (pU c28) (pF c30 c31) c29 (.inr (eqI c39)),show((ae x 0).op==1)=true from c39,bn (t:=a) (s:=b.s) (b:=true) (.inr (.inr (.inr (.inr (.inr ((of_decide_eq_true c45)))))))]; try rfl
 ·rw[va_e c1 c5,of_3 (op:=(ae x 0).op) (w:=(ae x 0).w) (pU c28) (pF c30 c31) c29 (.inr (eqI c39)),show((ae x 0).op==1)=true from c39,nF (t:=a) (s:=b.s) (b:=true) (of_decide_eq_false c40) (of_decide_eq_false c41) (of_decide_eq_false c42) (of_decide_eq_false c43) (of_decide_eq_false c44) (of_decide_eq_false c45)]; try rfl
 intro e; (try simp only[e,aj,Prog.eta,Ins.eta,aa,ab,-eq_self]); clear e
 ·rw[va_e c1 c5,of_6 (op:=(ae x 0).op) (w:=(ae x 0).w) (pU c28) c29 c32 c39]; try rfl
 intro e; (try simp only[e,aj,Prog.eta,Ins.eta,aa,ab,-eq_self]); clear e
 ·rw[va_e c1 c5,of_2 (op:=(ae x 0).op) (w:=(ae x 0).w) (.inl (pU c28)) c29]; try rfl
 constructor<;>intro c46
 constructor<;>intro c47
 constructor<;>intro c48
 constructor<;>intro c49
 intro e; (try simp only[e,aj,Prog.eta,Ins.eta,aa,ab,-eq_self]); clear e
 ·rw[va_e c1 c5,of_4 (op:=(ae x 0).op) (w:=(ae x 0).w) (pF c10 c28) (pT c46) c47 c48,bn (t:=b) (s:=a.s) (b:=false) (.inl (of_decide_eq_true c49))]; try rfl
 constructor<;>intro c50
 intro e; (try simp only[e,aj,Prog.eta,Ins.eta,aa,ab,-eq_self]); clear e
 ·rw[va_e c1 c5,of_4 (op:=(ae x 0).op) (w:=(ae x 0).w) (pF c10 c28) (pT c46) c47 c48,bn (t:=b) (s:=a.s) (b:=false) (.inr (.inl (of_decide_eq_true c50)))]; try rfl
 constructor<;>intro c51
 intro e; (try simp only[e,aj,Prog.eta,Ins.eta,aa,ab,-eq_self]); clear e
 ·rw[va_e c1 c5,of_4 (op:=(ae x 0).op) (w:=(ae x 0).w) (pF c10 c28) (pT c46) c47 c48,bn (t:=b) (s:=a.s) (b:=false) (.inr (.inr (.inl (of_decide_eq_true c51))))]; try rfl
 constructor<;>intro c52
 intro e; (try simp only[e,aj,Prog.eta,Ins.eta,aa,ab,-eq_self]); clear e
 ·rw[va_e c1 c5,of_4 (op:=(ae x 0).op) (w:=(ae x 0).w) (pF c10 c28) (pT c46) c47 c48,bn (t:=b) (s:=a.s) (b:=false) (.inr (.inr (.inr (.inl (of_decide_eq_true c52)))))]; try rfl
 constructor<;>intro c53
 intro e; (try simp only[e,aj,Prog.eta,Ins.eta,aa,ab,-eq_self]); clear e
 ·rw[va_e c1 c5,of_4 (op:=(ae x 0).op) (w:=(ae x 0).w) (pF c10 c28) (pT c46) c47 c48,bn (t:=b) (s:=a.s) (b:=false) (.inr (.inr (.inr (.inr (.inl (of_decide_eq_true c53))))))]; try rfl
 constructor<;>intro c54
 intro e; (try simp only[e,aj,Prog.eta,Ins.eta,aa,ab,-eq_self]); clear e
 ·rw[va_e c1 c5,of_4 (op:=(ae x 0).op) (w:=(ae x 0).w) (pF c10 c28) (pT c46) c47 c48,bn (t:=b) (s:=a.s) (b:=false) (.inr (.inr (.inr (.inr (.inr ((of_decide_eq_true c54)))))))]; try rfl
 ·rw[va_e c1 c5,of_4 (op:=(ae x 0).op) (w:=(ae x 0).w) (pF c10 c28) (pT c46) c47 c48,nF (t:=b) (s:=a.s) (b:=false) (of_decide_eq_false c49) (of_decide_eq_false c50) (of_decide_eq_false c51) (of_decide_eq_false c52) (of_decide_eq_false c53) (of_decide_eq_false c54)]; try rfl
 intro e; (try simp only[e,aj,Prog.eta,Ins.eta,aa,ab,-eq_self]); clear e
 ·rw[va_e c1 c5,of_7 (op:=(ae x 0).op) (w:=(ae x 0).w) (pT c46) c47 c48]; try rfl
 intro e; (try simp only[e,aj,Prog.eta,Ins.eta,aa,ab,-eq_self]); clear e
 ·rw[va_e c1 c5,of_2 (op:=(ae x 0).op) (w:=(ae x 0).w) (.inr (pT c46)) c47]; try rfl
 constructor<;>intro c55
 constructor<;>intro c56
 constructor<;>intro c57
 constructor<;>intro c58
 intro e; (try simp only[e,aj,Prog.eta,Ins.eta,aa,ab,-eq_self]); clear e
 ·rw[va_e c1 c5,of_4 (op:=(ae x 0).op) (w:=(ae x 0).w) (pF c10 c28) (pU c55) c56 c57,bn (t:=b) (s:=a.s) (b:=false) (.inl (of_decide_eq_true c58))]; try rfl
 constructor<;>intro c59
 intro e; (try simp only[e,aj,Prog.eta,Ins.eta,aa,ab,-eq_self]); clear e
 ·rw[va_e c1 c5,of_4 (op:=(ae x 0).op) (w:=(ae x 0).w) (pF c10 c28) (pU c55) c56 c57,bn (t:=b) (s:=a.s) (b:=false) (.inr (.inl (of_decide_eq_true c59)))]; try rfl
 constructor<;>intro c60
 intro e; (try simp only[e,aj,Prog.eta,Ins.eta,aa,ab,-eq_self]); clear e
 ·rw[va_e c1 c5,of_4 (op:=(ae x 0).op) (w:=(ae x 0).w) (pF c10 c28) (pU c55) c56 c57,bn (t:=b) (s:=a.s) (b:=false) (.inr (.inr (.inl (of_decide_eq_true c60))))]; try rfl
 constructor<;>intro c61
 intro e; (try simp only[e,aj,Prog.eta,Ins.eta,aa,ab,-eq_self]); clear e
 ·rw[va_e c1 c5,of_4 (op:=(ae x 0).op) (w:=(ae x 0).w) (pF c10 c28) (pU c55) c56 c57,bn (t:=b) (s:=a.s) (b:=false) (.inr (.inr (.inr (.inl (of_decide_eq_true c61)))))]; try rfl
 constructor<;>intro c62
 intro e; (try simp only[e,aj,Prog.eta,Ins.eta,aa,ab,-eq_self]); clear e
 ·rw[va_e c1 c5,of_4 (op:=(ae x 0).op) (w:=(ae x 0).w) (pF c10 c28) (pU c55) c56 c57,bn (t:=b) (s:=a.s) (b:=false) (.inr (.inr (.inr (.inr (.inl (of_decide_eq_true c62))))))]; try rfl
 constructor<;>intro c63
 intro e; (try simp only[e,aj,Prog.eta,Ins.eta,aa,ab,-eq_self]); clear e
 ·rw[va_e c1 c5,of_4 (op:=(ae x 0).op) (w:=(ae x 0).w) (pF c10 c28) (pU c55) c56 c57,bn (t:=b) (s:=a.s) (b:=false) (.inr (.inr (.inr (.inr (.inr ((of_decide_eq_true c63)))))))]; try rfl
 ·rw[va_e c1 c5,of_4 (op:=(ae x 0).op) (w:=(ae x 0).w) (pF c10 c28) (pU c55) c56 c57,nF (t:=b) (s:=a.s) (b:=false) (of_decide_eq_false c58) (of_decide_eq_false c59) (of_decide_eq_false c60) (of_decide_eq_false c61) (of_decide_eq_false c62) (of_decide_eq_false c63)]; try rfl
 intro e; (try simp only[e,aj,Prog.eta,Ins.eta,aa,ab,-eq_self]); clear e
 ·rw[va_e c1 c5,of_7 (op:=(ae x 0).op) (w:=(ae x 0).w) (pU c55) c56 c57]; try rfl
 intro e; (try simp only[e,aj,Prog.eta,Ins.eta,aa,ab,-eq_self]); clear e
 ·rw[va_e c1 c5,of_2 (op:=(ae x 0).op) (w:=(ae x 0).w) (.inr (pU c55)) c56]; try rfl
 intro e; (try simp only[e,aj,Prog.eta,Ins.eta,aa,ab,-eq_self]); clear e
 ·rw[va_e c1 c5,of_1 (op:=(ae x 0).op) (w:=(ae x 0).w) (pF c10 c28) (pF c46 c55)]; try rfl
 ·(rw[hp] at c0; simp at c0)
theorem pk {sp:Spec} {key:Nat} (hF:sp.F key=cX) (hP:sp.pre key=cH):SmOk Tryz.prog sp (jr key):=
 an (s:=jr key) hF hP (by kernel_rfl) eL (smc (gE rfl) (smc (akx rfl) (smc (aky rfl) (smc (aeK rfl) sm0)))) Tryz.func79 (fnc Tryz.func53 (fnc Tryz.func78 (fnc Tryz.func144 (fnc Tryz.func55 fn0)))) ahO (.inr (.inl ⟨(fun xs h L hL=>by unfold cH at h; split at h<;>first | exact h.elim | (simp at hL; subst hL; rw[h]; unfold maxLen; omega)),rfl⟩)) (fun x0 gx0=>bz fun q2 gq2=>bz fun q3 gq3=>fun hp ρ g=>ahe x0 gx0 q2 gq2 q3 gq3 hp ρ g)
end Go.Proofs.YtfkhblmeioiciaaGreatDoor
