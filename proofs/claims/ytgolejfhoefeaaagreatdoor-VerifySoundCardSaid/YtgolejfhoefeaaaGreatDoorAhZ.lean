import Derived.Test.YtgolejfhoefeaaaGreatDoorAfZ
import Derived.Test.YtgolejfhoefeaaaGreatDoorVzC
import Derived.Test.YtgolejfhoefeaaaGreatDoorProg
import Derived.Laws.Externs
import Derived.Test.YtgolejfhoefeaaaGreatDoorAgZ
import Derived.Test.YtgolejfhoefeaaaGreatDoorAeZ
import Derived.Lib.SmallJoins
import Derived.Test.YtgolejfhoefeaaaGreatDoorRows
set_option maxRecDepth 100000
set_option maxHeartbeats 8000000
set_option linter.defProp false
set_option linter.unusedVariables false
set_option linter.unusedSimpArgs false
namespace Go.Proofs.YtgolejfhoefeaaaGreatDoor
open Option renaming some->ZA,none->ZD
open Bool renaming true->ZB,false->ZC
open Go.Proofs.Tryz renaming prog->ZE
open Go.IntKind renaming wrap->ZF
open Nat renaming le_refl->ZI
open List renaming cons_append->ZJ
open Go Go.RowKit
variable {p q q2:Prop}{U:Env}{n:Nat}{H:Type}{W:World}
def aqS:(AC ⟨0,[[0,11,64,0,0,0,0,0,0],[6,0,0,0,0,0,0,0,0]]⟩).2.2.2=0:=by kernel_rfl
def alm:(AC ⟨0,[[6,0,0,0,0,0,0,0,0]]⟩).2.2.2=110:=by kernel_rfl
def abX:(AC ⟨4,[[1,0,0,8,0,0,1,0,0],[6,0,0,0,0,0,0,0,0]]⟩).2.2=(0,111):=by kernel_rfl
open Go.ChangeShapes Go.WideShapes
def aeh:List (Nat×TI):=[(2,CB),
 (3,CX),
 (4,Ez),
 (22,vd),
 (24,vb),
 (29,UQ),
 (30,UZ),
 (32,V3),
 (33,Qx),
 (38,fT),
 (39,eX),
 (46,gZ),
 (48,jl),
 (50,eM),
 (52,qS),
 (53,qR),
 (54,qQ),
 (56,uZ),
 (66,qP)]
def uT:∀t i,(t,i)∈aeh->TIok ZE t i:=bi (DU (z:=Ec) ⟨ra,lh⟩<|DU (z:=Dv) ⟨qZ,lg⟩<|DU (z:=lQ) ⟨lj,ig⟩ B1) B1 (by kernel_rfl)
def yx(key:Nat):Sm:=⟨5,key,[],[.one .bool],ZC⟩
def yA:List Dt->List Dt
 |[]=>[.z (AD ZB)]
 |_=>[]
def yn:Tr:=
(.call 0 ([.sl [ZD] 4,.sl ED 56]++[.int .i64]++[.int .i64]) (.cons (.p 0) (.N (.lcat (.lq .ln (.zs [0,11,64,0] (.j (.tt ZC) (.zs [0,0,0,0] .nil)))) (.lq .ln (.zs [6,0,0,0] (.j (.tt ZC) (.zs [0,0,0,0] .nil))))) .nil)) 0
(.call 0 ([.sl [ZD] 4,.sl ED 56]++[.int .i64]++[.int .i64]) (.cons (.p 0) (.N (.lq .ln (.zs [6,0,0,0] (.j (.tt ZC) (.zs [0,0,0,0] .nil)))) .nil)) 4
(.call 0 ([.sl [ZD] 4,.sl ED 56]++[.int .i64]++[.int .i64]) (.cons (.p 4) (.N (.lcat (.lq .ln (.zs [1,0,0,8] (.j (.tt ZC) (.zs [0,1,0,0] .nil)))) (.lq .ln (.zs [6,0,0,0] (.j (.tt ZC) (.zs [0,0,0,0] .nil))))) .nil)) 8
(.br (.eq (.w 3) (.p 0))
(.br (.eq (.w 7) (.p 110))
(.br (.eq (.w 10) (.p 0))
(.u (.j (.eq (.w 11) (.p 111)) .nil))
zlF)
zlF)
zlF))))
def apg:Spec:={F:=fun k=>match k with|0=>tI|_=>fun _=>[],pre:=fun k=>match k with|0=>pI|_=>fun _=>True,hw:=Jt,hx:=VF,hi:=Wt}
def apb:cb aeh [tH 0] [(11,Tryz.f11,[],[])] [] [] 200 Tryz.f5 [] [.one .bool] ZC [] yn:=E1 (by kernel_rfl)
def ao4:Cn yn apg [] [] yA:=by
 intro U g;unfold yn;refine az (xs:=[.z 0,.l [[0,11,64,0,0,0,0,0,0],[6,0,0,0,0,0,0,0,0]]]) rfl (Nat.le_of_ble_eq_true (by kernel_rfl)) (fun e=> ?_);have a1:U.i 3=0:=e.2.2.2.1.trans aqS;clear e;refine az (xs:=[.z 0,.l [[6,0,0,0,0,0,0,0,0]]]) rfl (Nat.le_of_ble_eq_true (by kernel_rfl)) (fun e=> ?_);have a2:U.i 7=110:=e.2.2.2.1.trans alm;clear e;refine az (xs:=[.z 4,.l [[1,0,0,8,0,0,1,0,0],[6,0,0,0,0,0,0,0,0]]]) rfl (Nat.le_of_ble_eq_true (by kernel_rfl)) (fun e=> ?_);have a3:U.i 10=0:=e.2.2.1.trans (congrArg Prod.fst abX);have a4:U.i 11=111:=e.2.2.2.1.trans (congrArg Prod.snd abX);clear e;refine⟨fun _=>⟨fun _=>⟨fun _=> ?_,fun c=> ?_⟩,fun c=> ?_⟩,fun c=> ?_⟩
 .show[Dt.z (AD (U.i 11==111))]=[.z (AD ZB)];rw[a4];rfl
 .rw[show(E.eq (.w 10) (.p 0)).B U=(U.i 10==0)from rfl,a3]at c;cases c
 .rw[show(E.eq (.w 7) (.p 110)).B U=(U.i 7==110)from rfl,a2]at c;cases c
 .rw[show(E.eq (.w 3) (.p 0)).B U=(U.i 3==0)from rfl,a1]at c;cases c
def api{sp:Spec}{key:Nat}(hF:sp.F key=yA)(hP:sp.pre key=fun _=>True:=by rfl)(hH:∀w,sp.hw w->Jt w:=by exact fun _ h=>h):SmOk ZE sp (yx key):=Wf (s:=yx key) (hW:=hH) hF hP (by kernel_rfl) uT (EC (agt rfl rfl) TL) Tryz.func5 (GC Tryz.func11 E0) apb (.inl rfl) (fun hp=>ao4)
def jI:List Dt->Prop
 |[.z x0,.l x1]=>let f (pr:Prog):Prop:=pr.l.length<=maxLen;f ⟨x0,x1⟩
 |_=>False
def c_lgreat:Cd:=⟨4,[.agg kProg],[.one .bool],rd_Prog fun pr _=>[.z (AD (decide ((100:Int)<(pr.l.length:Int))))],jI⟩
def vY:Tr:=
(.u (.j (.lt (.p 100) (.len (.g 1))) .nil))
def akZ:c_lgreat.Ok ZE:=
 AS (hl:=.inr (.inl ⟨(fun xs (h:jI xs) L hL=>by unfold jI at h;split at h<;>first|exact h.elim|(simp at hL;subst hL;exact h)),rfl⟩)) vY (v_Prog []) uT AI Tryz.func4<|gS fun pr hpr hp U g=>by
 simp only[c_lgreat,jI,dE,b2i_one,bF,Prog.eta,Ins.eta,af,aL]at hp;simp only[dE,AA,Nat.reduceAdd]at g;simp only[vY,c_lgreat,dE,Ai,Nat.reduceSub,Nat.reduceAdd,-eq_self,bF,Prog.eta,Ins.eta,af,aL,g]
 .try rfl
def cj(x:Ins):Ins:=
 if x.k=0 then⟨x.k,x.op,x.w,0,x.br &&!(x.op==8),x.d,if x.br=ZB/\x.op≠8 then x.s else 0,0,if x.br=ZB\/x.op=8 then 0 else x.imm⟩
 else if x.k=1\/x.k=2 then⟨x.k,0,0,x.sz,ZC,x.d,x.s,x.off,0⟩
 else if x.k=3 then⟨x.k,x.op,0,0,x.br,x.d,if x.br=ZB then x.s else 0,x.off,if x.br=ZB then 0 else x.imm⟩
 else if x.k=4 then⟨x.k,0,0,0,ZC,0,0,x.off,0⟩
 else if x.k=5 then⟨x.k,0,0,0,ZC,0,0,0,x.imm⟩
 else⟨x.k,0,0,0,ZC,0,0,0,0⟩
def cE(x:Ins):Bool:=
 if x.k=0 then(!decide (x.op<0))&&((!decide (12<x.op))&&((x.w==32||x.w==64)&&decide (x.d<10)))
 else if x.k=1 then aN x.sz&&decide (x.d<10)
 else if x.k=2 then aN x.sz
 else if x.k=3 then(!decide (x.op<0)) &&!decide (10<x.op)
 else if x.k=5 then(!decide (x.imm<0))&&decide (x.imm<16)
 else ZB
def cD(x y:Ins):Bool:=(x.k==y.k)&&((x.op==y.op)&&((x.w==y.w)&&((x.sz==y.sz)&&((x.br==y.br)&&((x.d==y.d)&&((x.s==y.s)&&((x.off==y.off)&&(x.imm==y.imm))))))))
def jm(x:Ins):Bool:=(!decide (x.k<0))&&((!decide (6<x.k))&&(cD x (cj x)&&((!decide (x.d<0))&&((!decide (10<x.d))&&((!decide (x.s<0))&&((!decide (10<x.s))&&((!decide (x.off < -32768))&&(decide (x.off<32768)&&((!decide (x.imm < -2147483648))&&(decide (x.imm<2147483648)&&cE x))))))))))
def be(x:Ins):A2 x=jm x:=by
 obtain⟨k,op,w,sz,br,d,s,off,imm⟩:=x;by_cases h0:k=0
 .subst h0;by_cases h8:op=8
  .subst h8;cases br<;>(rw[aj];simp[A2,jm,fz,gi,ct,BH,cD,cj,cE];try omega)
  .cases br<;>(rw[aj];simp[A2,jm,fz,gi,ct,BH,cD,cj,cE,h8];try omega)
 by_cases h1:k=1
 .subst h1;cases br<;>(rw[aj];simp[A2,jm,fz,gi,ct,BH,cD,cj,cE];try (cases aN sz<;>simp<;>omega))
 by_cases h2:k=2
 .subst h2;cases br<;>(rw[aj];simp[A2,jm,fz,gi,ct,BH,cD,cj,cE];try (cases aN sz<;>simp<;>omega))
 by_cases h3:k=3
 .subst h3;cases br<;>(rw[aj];simp[A2,jm,fz,gi,ct,BH,cD,cj,cE];try omega)
 by_cases h4:k=4
 .subst h4;cases br<;>(rw[aj];simp[A2,jm,fz,gi,ct,BH,cD,cj,cE];try omega)
 by_cases h5:k=5
 .subst h5;cases br<;>(rw[aj];simp[A2,jm,fz,gi,ct,BH,cD,cj,cE];try omega)
 by_cases h6:k=6
 .subst h6;cases br<;>(rw[aj];simp[A2,jm,fz,gi,ct,BH,cD,cj,cE];try omega)
 .have:¬(0<=k/\k<=6):=by omega
  rw[aj];simp[A2,jm,ct,h0,h1,h2,h3,h4,h5,h6];omega
def ap4{p:Prog}(hl:p.l.length<=maxLen):p.last=(p.l.length:Int)-1:=by unfold Prog.last;show IntKind.i64.wrap ((p.l.length:Int)-1)=_;rw[aP];simp[maxLen]at hl;omega
def ay:=aI Ins.eta (Prog.eta)
def aha(k:q2)(h:p->q=q2:=by intro e;(try simp only[e,ay,af,-eq_self]);rfl):p->q:=fun e=>(h e).symm▸k
def aoF:List (Nat×TI):=[(3,CX),
 (4,Ez),
 (38,fT),
 (66,qP)]
def jD:∀t i,(t,i)∈aoF->TIok ZE t i:=bi (DU (z:=lQ) ⟨lj,ig⟩ B1) B1 (by kernel_rfl)
def c_jsz:Cd:=⟨93,[.one (.int .i8)],[.one .bool],rdZ fun n _=>[.z (AD (aN n))],T0⟩
def amn:Tr:=
(.br (.eq (.w 0) (.p 1))
zlT
(.br (.eq (.w 0) (.p 2))
zlT
(.br (.eq (.w 0) (.p 4))
zlT
(.u (.j (.eq (.w 0) (.p 8)) .nil)))))
def au8:c_jsz.Ok ZE:=
 AS amn [.int .i8] jD AI Tryz.func93<|fun n hn hp U g=>by
 simp only[AA,Nat.reduceAdd]at g;simp only[amn,c_jsz,Ai,Nat.reduceSub,Nat.reduceAdd,-eq_self,ay,af,g]
 .repeat' first|apply aI<;>intro c|exact Xt
def c_jfields:Cd:=⟨92,[.agg kIns],[.agg kIns],rd_Ins fun x _=>d_Ins (cj x) [],T0⟩
def anD:Tr:=(.u (.cons (.w 0) (.cons (.p 0) (.cons (.p 0) (.cons (.w 3) (.j (.tt ZC) (.vs 5 3 (.cons (.p 0) .nil))))))))
def rC:Tr:=
(.br (.eq (.w 0) (.p 0))
(.br (.s 4)
(.br (.eq (.w 1) (.p 8))
(.u (.vs 0 3 (.cons (.p 0) (.j (.not (.eq (.w 1) (.p 8))) (.cons (.w 5) (.zs [0,0,0] .nil))))))
(.u (.vs 0 3 (.cons (.p 0) (.j (.not (.eq (.w 1) (.p 8))) (.vs 5 2 (.cons (.p 0) (.cons (.p 0) .nil))))))))
(.br (.eq (.w 1) (.p 8))
(.u (.vs 0 3 (.cons (.p 0) (.j (.tt ZC) (.cons (.w 5) (.zs [0,0,0] .nil))))))
(.u (.vs 0 3 (.cons (.p 0) (.j (.tt ZC) (.cons (.w 5) (.cons (.p 0) (.cons (.p 0) (.cons (.w 8) .nil))))))))))
(.br (.eq (.w 0) (.p 1))
anD
(.br (.eq (.w 0) (.p 2))
anD
(.br (.eq (.w 0) (.p 3))
(.br (.s 4)
(.u (.vs 0 2 (.cons (.p 0) (.cons (.p 0) (.j (.s 4) (.vs 5 3 (.cons (.p 0) .nil)))))))
(.u (.vs 0 2 (.cons (.p 0) (.cons (.p 0) (.j (.s 4) (.cons (.w 5) (.cons (.p 0) (.vs 7 2 .nil)))))))))
(.br (.eq (.w 0) (.p 4))
(.u (.cons (.w 0) (.zs [0,0,0] (.j (.tt ZC) (.cons (.p 0) (.cons (.p 0) (.cons (.w 7) (.cons (.p 0) .nil))))))))
(.br (.eq (.w 0) (.p 5))
(.u (.cons (.w 0) (.zs [0,0,0] (.j (.tt ZC) (.zs [0,0,0] (.cons (.w 8) .nil))))))
(.u (.cons (.w 0) (.zs [0,0,0] (.j (.tt ZC) (.zs [0,0,0,0] .nil)))))))))))
def ahK:c_jfields.Ok ZE:=
 AS rC (v_Ins []) jD AI Tryz.func92<|iR fun x hx hp U g=>by
 simp only[eu,AA,Nat.reduceAdd]at g;simp only[rC,anD,c_jfields,eu,Ai,Nat.reduceSub,Nat.reduceAdd,-eq_self,ay,af,g]
 .repeat' first|apply aI<;>intro c|exact XI
def c_jmay:Cd:=⟨50,[.agg kIns],[.one .bool],rd_Ins fun x _=>[.z (AD (A2 x))],T0⟩
def age:Tr:=
(.br (.lt (.w 0) (.p 0))
zlF
(.br (.lt (.p 6) (.w 0))
zlF
(.call 1 (kIns) (.vs 0 4 (.j (.s 4) (.vs 5 4 .nil))) 9
(.br (.eq (.w 0) (.w 9))
(.br (.eq (.w 1) (.w 10))
(.br (.eq (.w 2) (.w 11))
(.br (.eq (.w 3) (.w 12))
(.br (.beq (.s 4) (.s 13))
(.br (.eq (.w 5) (.w 14))
(.br (.eq (.w 6) (.w 15))
(.br (.eq (.w 7) (.w 16))
(.br (.eq (.w 8) (.w 17))
(.br (.lt (.w 5) (.p 0))
zlF
(.br (.lt (.p 10) (.w 5))
zlF
(.br (.lt (.w 6) (.p 0))
zlF
(.br (.lt (.p 10) (.w 6))
zlF
(.br (.lt (.w 7) (.p (-32768)))
zlF
(.br (.lt (.w 7) (.p 32768))
(.br (.lt (.w 8) (.p (-2147483648)))
zlF
(.br (.lt (.w 8) (.p 2147483648))
(.br (.eq (.w 0) (.p 0))
(.br (.lt (.w 1) (.p 0))
zlF
(.br (.lt (.p 12) (.w 1))
zlF
(.br (.eq (.w 2) (.p 32))
(.u (.j (.lt (.w 5) (.p 10)) .nil))
(.br (.eq (.w 2) (.p 64))
(.u (.j (.lt (.w 5) (.p 10)) .nil))
zlF))))
(.br (.eq (.w 0) (.p 1))
(.call 0 [.bool] (.cons (.w 3) .nil) 18
(.br (.s 18)
(.u (.j (.lt (.w 5) (.p 10)) .nil))
zlF))
(.br (.eq (.w 0) (.p 2))
(.call 0 [.bool] (.cons (.w 3) .nil) 18
(.u (.j (.s 18) .nil)))
(.br (.eq (.w 0) (.p 3))
(.br (.lt (.w 1) (.p 0))
zlF
(.u (.j (.not (.lt (.p 10) (.w 1))) .nil)))
(.br (.eq (.w 0) (.p 5))
(.br (.lt (.w 8) (.p 0))
zlF
(.u (.j (.lt (.w 8) (.p 16)) .nil)))
zlT)))))
zlF))
zlF))))))
zlF)
zlF)
zlF)
zlF)
zlF)
zlF)
zlF)
zlF)
zlF))))
def atf:c_jmay.Ok ZE:=
 AS age (v_Ins []) jD (Am au8<|Am ahK AI) Tryz.func50<|iR fun x hx hp U g=>by
 simp only[eu,AA,Nat.reduceAdd]at g;simp only[age,c_jsz,c_jfields,c_jmay,eu,Ai,Nat.reduceSub,Nat.reduceAdd,-eq_self,ay,af,g]
 .repeat' first|apply aI<;>intro c|refine aha ?_|exact IO
def c_jtgt:Cd:=⟨51,[.one (.int .i64),.agg kIns],[.one (.int .i64),.one .bool],rdZ fun i=>rd_Ins fun x _=>[.z ((AP i x).1),.z (AD ((AP i x).2))],T0⟩
def Qj:Tr:=(.u (.cons (.p 0) (.j (.tt ZC) .nil)))
def anC:Tr:=(.br (.lt (.w 0) (.p (-1099511627776)))
Qj
(.br (.lt (.p 1099511627776) (.w 0))
Qj
(.br (.lt (.w 8) (.p (-1099511627776)))
Qj
(.br (.lt (.p 1099511627776) (.w 8))
Qj
(.u (.cons (.f .add .i64 (.f .add .i64 (.w 0) (.p 1)) (.w 8)) (.j (.tt ZB) .nil)))))))
def agb:Tr:=
(.br (.eq (.w 1) (.p 3))
anC
(.br (.eq (.w 1) (.p 4))
anC
Qj))
def amR:c_jtgt.Ok ZE:=
 AS agb (.int .i64::v_Ins []) jD AI Tryz.func51<|fun i hi=>iR fun x hx hp U g=>by
 simp only[eu,AA,Nat.reduceAdd]at g;simp only[agb,anC,Qj,c_jtgt,eu,Ai,Nat.reduceSub,Nat.reduceAdd,-eq_self,ay,af,g];constructor<;>intro c0;constructor<;>intro c1
 .rw[rT (by have:=Ah c1;simp;omega)];try rfl
 constructor<;>intro c2
 .rw[rT (by have:=Ah c2;simp;omega)];try rfl
 constructor<;>intro c3
 .rw[rS (by have:=Ah c3;simp;omega)];try rfl
 constructor<;>intro c4
 .rw[rS (by have:=Ah c4;simp;omega)];try rfl
 .rw[rR (.inl (Bt c0)) (by have q1:=Ab c1;have q2:=Ab c2;simp;omega) (by have q1:=Ab c3;have q2:=Ab c4;simp;omega)];try rfl
 constructor<;>intro c5;constructor<;>intro c6
 .rw[rT (by have:=Ah c6;simp;omega)];try rfl
 constructor<;>intro c7
 .rw[rT (by have:=Ah c7;simp;omega)];try rfl
 constructor<;>intro c8
 .rw[rS (by have:=Ah c8;simp;omega)];try rfl
 constructor<;>intro c9
 .rw[rS (by have:=Ah c9;simp;omega)];try rfl
 .rw[rR (.inr (Bt c5)) (by have q1:=Ab c6;have q2:=Ab c7;simp;omega) (by have q1:=Ab c8;have q2:=Ab c9;simp;omega)];try rfl
 .rw[amU c0 c5];try rfl
def c_jargs:Cd:=⟨94,[.one (.int .i64)],[.one (.int .i64)],rdZ fun n _=>[.z (fJ n)],T0⟩
def aaW:Tr:=
(.br (.lt (.w 0) (.p 0))
(.u (.cons (.p 0) .nil))
(.br (.lt (.w 0) (.p 16))
(.u (.cons (.f .rem .i64 (.w 0) (.p 6)) .nil))
(.u (.cons (.p 0) .nil))))
def ahL:c_jargs.Ok ZE:=
 AS aaW [.int .i64] jD AI Tryz.func94<|fun n hn hp U g=>by
 simp only[AA,Nat.reduceAdd]at g;simp only[aaW,c_jargs,Ai,Nat.reduceSub,Nat.reduceAdd,-eq_self,ay,af,g]
 .repeat' first|apply aI<;>intro c|exact YH
def amC(k:q2)(h:p->q=q2:=by intro e;(try simp only[e,ay,af,-eq_self]);rfl):p->q:=fun e=>(h e).symm▸k
def aep:List (Nat×TI):=[(3,CX),
 (4,Ez),
 (22,vd),
 (24,vb),
 (38,fT),
 (66,qP)]
def aee:∀t i,(t,i)∈aep->TIok ZE t i:=bi (DU (z:=lQ) ⟨lj,ig⟩ B1) B1 (by kernel_rfl)
def jM:List Dt->Prop
 |[.z x0,.l x1]=>let f (pr:Prog):Prop:=pr.l.length<=maxLen;f ⟨x0,x1⟩
 |_=>False
def c_jcheck:Cd:=⟨18,[.agg kProg],[.one (.int .i64),.one (.int .i64)],rd_Prog fun pr _=>[.z ((aV pr).1),.z ((aV pr).2)],jM⟩
def Xi:Tr:=(.next 0 (.cons (.f .add .i64 (.w 2) (.p 1)) .nil))
def anB:E:=(.get (.g 1) (.f .sub .i64 (.len (.g 1)) (.p 1)) 0)
def pG:Tr:=
(.br (.lt (.w 0) (.p 0))
(.u (.cons (.p 0) (.cons (.p 2) .nil)))
(.br (.lt (.p 256) (.w 0))
(.u (.cons (.p 0) (.cons (.p 2) .nil)))
(.br (.lt (.len (.g 1)) (.p 1))
(.u (.cons (.p 0) (.cons (.p 3) .nil)))
(.br (.lt (.p 64) (.len (.g 1)))
(.u (.cons (.p 0) (.cons (.p 3) .nil)))
(.loop 0 2 [.int .i64] (.cons (.p 0) .nil)
(.br (.lt (.w 2) (.len (.g 1)))
(.br (.lt (.w 2) (.p 0))
.panic
(.call 0 [.bool] (.ins (.g 1) (.w 2) .nil) 3
(.br (.s 3)
(.call 1 [.int .i64,.bool] (.cons (.w 2) (.ins (.g 1) (.w 2) .nil)) 4
(.br (.s 5)
(.br (.lt (.w 4) (.p 0))
(.u (.cons (.w 2) (.cons (.p 32) .nil)))
(.br (.lt (.w 4) (.len (.g 1)))
Xi
(.u (.cons (.w 2) (.cons (.p 32) .nil)))))
Xi))
(.u (.cons (.w 2) (.cons (.p 31) .nil))))))
(.br (.lt (.f .sub .i64 (.len (.g 1)) (.p 1)) (.p 0))
.panic
(.br (.lt (.f .sub .i64 (.len (.g 1)) (.p 1)) (.len (.g 1)))
(.br (.eq anB (.p 4))
(.u (.cons (.p 0) (.cons (.p 0) .nil)))
(.br (.eq anB (.p 6))
(.u (.cons (.p 0) (.cons (.p 0) .nil)))
(.u (.cons (.f .sub .i64 (.len (.g 1)) (.p 1)) (.cons (.p 33) .nil)))))
.panic))))))))
def agr:cb aep (Fq 0 [c_jmay,c_jtgt]) [] [(7,[.tmpI 5 .i64]++E2 [(2,2),(6,2),(25,34)])] [] 200 Tryz.f18 c_jcheck.a c_jcheck.r (tp c_jcheck.r) (v_Prog []) pG:=E1 (by kernel_rfl)
def ak4:c_jcheck.Ok ZE:=
 GE (hl:=.inr (.inl ⟨(fun xs (h:jM xs) L hL=>by unfold jM at h;split at h<;>first|exact h.elim|(simp at hL;subst hL;exact h)),rfl⟩)) pG (v_Prog []) aee (Am atf<|Am amR AI) Tryz.func18 E0 agr<|gS fun pr hpr hp U g=>by
 simp only[c_jcheck,jM,dE,b2i_one,ay,af]at hp;have Aq:=g;simp only[dE,eu,AA,Nat.reduceAdd]at g;simp only[pG,anB,Xi,c_jmay,c_jtgt,c_jcheck,dE,eu,Ai,Nat.reduceSub,Nat.reduceAdd,-eq_self,ay,af,g];have hp:=hpr.2.len;have Lw:=ap4 hp;constructor<;>intro c0
 .rw[nL (by have q:=Ah c0;simp;omega)];try rfl
 constructor<;>intro c1
 .rw[nL (by have q:=Ah c1;simp;omega)];try rfl
 constructor<;>intro c2
 .rw[nK Yc (by have q:=Ah c2;rw[Lw];simp;omega)];try rfl
 constructor<;>intro c3
 .rw[nK Yc (by have q:=Ah c3;rw[Lw];simp;omega)];try rfl
 have hC:(decide (0<=pr.ctx)&&decide (pr.ctx<=256))=ZB:=Yc;have hL:(decide (0<=pr.last)&&decide (pr.last<=63))=ZB:=by have q1:=Ab c2;have q2:=Ab c3;rw[Lw];simp;omega
 refine⟨fun ds=>∃n:Nat,ds=[.z (n:Int)]/\n<=pr.l.length/\(Dr pr pr.l.length 0=Dr pr (pr.l.length-n) n),fun ds=>(pr.l.length-(dI ds 0).toNat),⟨0,rfl,Nat.zero_le _,rfl⟩,?_⟩;intro U1 AY _ Ba;obtain⟨n,Bq,r1,r2⟩:=Ba;simp only[Be,Dt.z.injEq,and_true]at Bq;have g1:=(aW AY _ 0 ST).trans Aq;simp only[dE,eu,AA,Nat.reduceAdd]at g1;simp only[g1,Bq,af,-eq_self];constructor<;>intro c4;constructor<;>intro c5
 .exact absurd (Ah c5) Fn
 refine amC ?_;constructor<;>intro c6;refine amC ?_;constructor<;>intro c7;constructor<;>intro c8
 .rw[iA hC hL r2 (Int.ofNat_lt.1 (Ah c4)) (oS c6 c7 (by have q:=Ah c8;rw[Lw];simp;omega))];try rfl
 constructor<;>intro c9
 .exact⟨⟨n+1,by rw[G2 (Int.ofNat_lt.1 (Ah c4)) hp],(Int.ofNat_lt.1 (Ah c4)),r2.trans (mf (Int.ofNat_lt.1 (Ah c4)) (oT c6 (.inr (by have q1:=Ab c8;have q2:=Ah c9;rw[Lw];simp;omega))))⟩,by rw[G2 (Int.ofNat_lt.1 (Ah c4)) hp];show pr.l.length-(((n+1:Nat):Int)).toNat<pr.l.length-((n:Int)).toNat;have:=(Int.ofNat_lt.1 (Ah c4));omega⟩
 .rw[iA hC hL r2 (Int.ofNat_lt.1 (Ah c4)) (oS c6 c7 (by have q:=Ab c9;rw[Lw];simp;omega))];try rfl
 .exact⟨⟨n+1,by rw[G2 (Int.ofNat_lt.1 (Ah c4)) hp],(Int.ofNat_lt.1 (Ah c4)),r2.trans (mf (Int.ofNat_lt.1 (Ah c4)) (oT c6 (.inl c7)))⟩,by rw[G2 (Int.ofNat_lt.1 (Ah c4)) hp];show pr.l.length-(((n+1:Nat):Int)).toNat<pr.l.length-((n:Int)).toNat;have:=(Int.ofNat_lt.1 (Ah c4));omega⟩
 .rw[iA hC hL r2 (Int.ofNat_lt.1 (Ah c4)) (qK c6)];try rfl
 constructor<;>intro BF
 .have q:=Ah BF;have w:Ac .sub .i64 (pr.l.length:Int) 1=_:=Lw;rw[w]at q;have q3:=Ab c2;omega
 constructor<;>intro CD;constructor<;>intro B9
 .rw[fN hC hL r2 (by have:=Ab c4;omega),if_pos (.inl (Bt B9))];try rfl
 constructor<;>intro Cq
 .rw[fN hC hL r2 (by have:=Ab c4;omega),if_pos (.inr (Bt Cq))];try rfl
 .rw[fN hC hL r2 (by have:=Ab c4;omega),if_neg (fun h=>h.elim (Cc B9) (Cc Cq))];try rfl
 .have q:=Ab CD;have w:Ac .sub .i64 (pr.l.length:Int) 1=_:=Lw;rw[w]at q;have q3:=Ab c2;omega
def acS(cc w1 a b:Int)(w:World)(h0:0<=a)(h1:a<=18446744073709551615)(h2:0<=b)(h3:b<=18446744073709551615)(h4:0<=cc)(h5:cc<=10)(hw:fB w1=ZB):
  Calls ZE 60 #[.int .i8 cc,.int .i8 w1,.int .u64 a,.int .u64 b] w fun e w'=>e=.returned (.tuple #[.bool (lP cc w1 a b),.int .i64 0])/\w=w':=by
 obtain⟨AY,Cf⟩:=de a w1 h0 h1;obtain⟨Iz,DW⟩:=de b w1 h2 h3;have za:wrap64 (eD (Ap a w1) w1)=zs a w1:=rfl;have zb:wrap64 (eD (Ap b w1) w1)=zs b w1:=rfl;rcases alB h4 h5 with rfl|rfl|rfl|rfl|rfl|rfl|rfl|rfl|rfl|rfl|rfl
 all_goals
  go_enter Tryz.func60,Tryz.ntmps60
  go_wp2_with (first
   |(go_at_call 95;refine(ml _ _).mono ?_;rintro e w' ⟨rfl,rfl⟩)
   |(go_at_call 96;with_reducible refine(iN a _ _ Fn Fn).mono ?_;rintro e w' ⟨rfl,rfl⟩)
   |(go_at_call 96;with_reducible refine(iN b _ _ Fn Fn).mono ?_;rintro e w' ⟨rfl,rfl⟩)
   |(go_at_call 97;refine(wg _ _ _ Fn Fn).mono ?_;rintro e w' ⟨rfl,rfl⟩)
   |fail)
  go_ret2
  refine⟨?_,rfl⟩;simp[lP]
  done
def acR(op w1 a b:Int)(w:World)(HA:(decide (op<0)||decide (10<op) ||!fB w1)=ZB):
  Calls ZE 60 #[.int .i8 op,.int .i8 w1,.int .u64 a,.int .u64 b] w fun e w'=>e=.returned (.tuple #[.bool ZC,.int .i64 2])/\w=w':=by
 have hc:op<0\/(0<=op/\10<op)\/(0<=op/\op<=10/\fB w1=ZC):=by
  by_cases h1:op<0
  .exact .inl h1
  .by_cases h2:10<op
   .exact Ym
   .exact XO
 clear HA;rcases hc with h|⟨h,h'⟩|⟨h,h',hw⟩
 all_goals
  go_enter Tryz.func60,Tryz.ntmps60
  go_wp2_with (go_at_call 95;refine(ml _ _).mono ?_;rintro e w' ⟨rfl,rfl⟩)
  go_ret2
  exact⟨rfl,rfl⟩
def ast(k:q2)(h:p->q=q2:=by intro e;(try simp only[e,Kn.eta,Pi.eta,Pu.eta,Rg.eta,Sc.eta,Sc.eta_r,Sc.eta_k,Sc.eta_2,-eq_self]);rfl):p->q:=fun e=>(h e).symm▸k
def aoz:List (Nat×TI):=[(39,eX),
 (48,jl)]
def uV:∀t i,(t,i)∈aoz->TIok ZE t i:=bi B1 B1 (by kernel_rfl)
def c_rbits:Cd:=⟨54,[.one (.int .i8),.one (.int .i8),.one (.int .u64),.one (.int .u64)],[.one (.int .u64),.one (.int .i64)],rdZ fun op=>rdZ fun l=>rdZ fun x=>rdZ fun y _=>[.z (if Bs op l=ZB then BD op l x y else 0),.z (if Bs op l=ZB then 0 else 2)],T0⟩
def akf(op:Int)(Ad:Ae .i8 op=ZB)(l:Int)(hl:Ae .i8 l=ZB)(x:Int)(hx:Ae .u64 x=ZB)(y:Int)(hy:Ae .u64 y=ZB):(∀w,Calls ZE 54 #[.int .i8 op,.int .i8 l,.int .u64 x,.int .u64 y] w fun e w'=>e=.returned (.tuple #[.int .u64 (if Bs op l=ZB then BD op l x y else 0),.int .i64 (if Bs op l=ZB then 0 else 2)])/\Ext w w')/\fP (.tuple #[.int .u64 (if Bs op l=ZB then BD op l x y else 0),.int .i64 (if Bs op l=ZB then 0 else 2)])=ZB:=by
 have gx:=cU hx;have gy:=cU hy;cases hk:Bs op l
 .refine⟨fun w=>(apv op l x y w ?_).mono ?_,by simp[fP,fc,fg];decide⟩
  .unfold Bs at hk;rw[Bool.and_eq_false_iff,Bool.and_eq_false_iff]at hk;rcases hk with(hk|hk)|hk
   .have:=Ab hk;simp;omega
   .have:=Ab hk;simp;omega
   .rw[hk];simp
  .rintro e w' ⟨rfl,rfl⟩;exact⟨by simp,Ext.refl _⟩
 .unfold Bs at hk;simp only[ne,aB]at hk;have hz:=pn (ey op l x y gx.1 gx.2 gy.1 gy.2);refine⟨fun w=>(apw op l x y w gx.1 gx.2 gy.1 gy.2 hk.1.1 hk.1.2 hk.2).mono ?_,by simp[fP,fc,fg,hz];decide⟩;rintro e w' ⟨rfl,hx⟩
  first
  |exact⟨by simp,hx⟩
  |(subst hx;exact⟨by simp,Ext.refl _⟩)
def aqr:c_rbits.Ok ZE:=fun hF hP=>by
 refine SmOk.pure (s:=c_rbits.m _) hF rfl rfl fun xs vals w h=> ?_;obtain⟨_,_,_,rfl,⟨x0,rfl,rfl,Dd⟩,h⟩:=h;obtain⟨_,_,_,rfl,⟨x1,rfl,rfl,Dp⟩,h⟩:=h;obtain⟨_,_,_,rfl,⟨x2,rfl,rfl,Gp⟩,h⟩:=h;obtain⟨_,_,_,rfl,⟨x3,rfl,rfl,Ge⟩,h⟩:=h;obtain⟨rfl,rfl⟩:=h;have q:=akf x0 Dd x1 Dp x2 Gp x3 Ge;refine⟨_,.inr ⟨dD Tryz.func54 (by kernel_rfl) (by kernel_rfl) _ w,q.1 w⟩,?_,fun U v0 nid j he=> ?_⟩
 .have q2:=q.2;simp[fP,fc,fg]at q2;simp[c_rbits,Cd.m,tp,rdZ,rdB,rdL,List.flatMap_cons,List.flatMap_nil,Sh.cks,List.append_nil,ZJ,List.nil_append,b2i_one,gE,q2]
 .simp only[c_rbits,Cd.m,tp,rdZ,rdB,rdL,List.flatMap_cons,List.flatMap_nil,Sh.cks,List.append_nil,ZJ,List.nil_append,b2i_one,eqs,dI,dB,cy,lY,bJ,Nat.add_zero,Nat.reduceAdd,and_true]at he;simp[c_rbits,Cd.m,tp,rdZ,rdB,rdL,List.flatMap_cons,List.flatMap_nil,Sh.cks,List.append_nil,ZJ,List.nil_append,b2i_one,fY,bH,aE,V.den,C.den,Af,BJ,cm,E.I,E.B,he]
def c_qmay:Cd:=⟨139,[.agg kKn],[.one .bool],rd_Kn fun a _=>[.z (AD (Bx a))],T0⟩
def afS:Tr:=
(.u (.j (.eq (.f .and .u64 (.w 0) (.w 1)) (.p 0)) .nil))
def amL:c_qmay.Ok ZE:=
 AS afS (v_Kn []) uV AI Tryz.func139<|cG fun a ha hp U g=>by
 simp only[AL,AA,Nat.reduceAdd]at g;simp only[afS,c_qmay,AL,Ai,Nat.reduceSub,Nat.reduceAdd,-eq_self,Kn.eta,Sc.eta_r,Sc.eta_k,Sc.eta_2,g]
 .rfl
def c_qhas:Cd:=⟨104,[.agg kKn,.one (.int .u64)],[.one .bool],rd_Kn fun a=>rdZ fun v _=>[.z (AD (AW a v))],T0⟩
def afT:Tr:=
(.call 0 [.bool] (.vs 0 2 .nil) 3
(.br (.s 3)
(.u (.j (.eq (.f .andNot .u64 (.w 2) (.w 1)) (.w 0)) .nil))
zlF))
def as3:c_qhas.Ok ZE:=
 AS afT (v_Kn [.int .u64]) uV (Am amL AI) Tryz.func104<|cG fun a ha=>fun v hv hp U g=>by
 simp only[AL,AA,Nat.reduceAdd]at g;simp only[afT,c_qmay,c_qhas,AL,Ai,Nat.reduceSub,Nat.reduceAdd,-eq_self,Kn.eta,Pi.eta,Pu.eta,Rg.eta,Sc.eta,Sc.eta_r,Sc.eta_k,Sc.eta_2,g];refine ast ?_;constructor<;>intro c0
 .exact Yp
 .exact Yp
def kI{v:Nat}{σ:Env}{z:Int}(h:Ag v U σ)(k:U.i n=z)(hn:n<v:=by decide):σ.i n=z:=(h n hn).1.symm.trans k
def kL{v:Nat}{σ:Env}{z:LL}(h:Ag v U σ)(k:U.l n=z)(hn:n<v:=by decide):σ.l n=z:=(h n hn).2.2.symm.trans k
def Out.eta(a:Out):(⟨a.kind,a.r0,a.ctx,a.tr,a.left⟩:Out)=a:=rfl
def rd_Out(k:Out->List Dt->List Dt):List Dt->List Dt
 |.z z0::.z z1::.l z2::.l z3::.z z4::r=>k ⟨z0,z1,z2,z3,z4⟩ r
 |_=>[]
def Out.ok(a:Out):Prop:=Ae .i8 a.kind=ZB/\Ae .u64 a.r0=ZB/\RowsIn [ZA .u8] a.ctx/\RowsIn (kN 8 11111212) a.tr/\Ae .i64 a.left=ZB
def kOut:List CK:=[.int .i8,.int .u64,.sl [ZA .u8] 5,.sl (kN 8 11111212) 178,.int .i64]
def v_Out(t:List VK):List VK:=.int .i8::.int .u64::.list [ZA .u8]::.list (kN 8 11111212)::.int .i64::t
def d_Out(a:Out)(t:List Dt):List Dt:=.z a.kind::.z a.r0::.l a.ctx::.l a.tr::.z a.left::t
def apy:=aI @v_Out.eq_1 (aI @d_Out.eq_1 (aI @rd_Out.eq_1 (@kOut.eq_1)))
structure JMem where
 l0:LL
 l1:LL
 l2:LL
 l3:LL
def JMem.eta(a:JMem):(⟨a.l0,a.l1,a.l2,a.l3⟩:JMem)=a:=rfl
def rd_JMem(k:JMem->List Dt->List Dt):List Dt->List Dt
 |.l z0::.l z1::.l z2::.l z3::r=>k ⟨z0,z1,z2,z3⟩ r
 |_=>[]
def JMem.ok(a:JMem):Prop:=RowsIn [ZA .u8] a.l0/\RowsIn [ZA .u8] a.l1/\RowsIn [ZA .u8] a.l2/\RowsIn [ZA .u8] a.l3
def kJMem:List CK:=[.sl [ZA .u8] 5,.sl [ZA .u8] 5,.sl [ZA .u8] 5,.sl [ZA .u8] 5]
def v_JMem(t:List VK):List VK:=.list [ZA .u8]::.list [ZA .u8]::.list [ZA .u8]::.list [ZA .u8]::t
def d_JMem(a:JMem)(t:List Dt):List Dt:=.l a.l0::.l a.l1::.l a.l2::.l a.l3::t
def ur{l:List VK}{p:List Dt->Prop}(h:∀a:JMem,JMem.ok a->aO l fun r=>p (d_JMem a r)):aO (v_JMem l) p:=fun x0 Dd x1 Dp x2 Gp x3 Ge=>h ⟨x0,x1,x2,x3⟩ ⟨Dd,Dp,Gp,Ge⟩
def jT:=aI @v_JMem.eq_1 (aI @d_JMem.eq_1 (aI @rd_JMem.eq_1 (@kJMem.eq_1)))
structure JMd where
 r0:Int
 r1:Int
 r2:Int
 r3:Int
 r4:Int
 r5:Int
 r6:Int
 r7:Int
 r8:Int
 r9:Int
 r10:Int
def JMd.eta(a:JMd):(⟨a.r0,a.r1,a.r2,a.r3,a.r4,a.r5,a.r6,a.r7,a.r8,a.r9,a.r10⟩:JMd)=a:=rfl
def rd_JMd(k:JMd->List Dt->List Dt):List Dt->List Dt
 |.z z0::.z z1::.z z2::.z z3::.z z4::.z z5::.z z6::.z z7::.z z8::.z z9::.z L6::r=>k ⟨z0,z1,z2,z3,z4,z5,z6,z7,z8,z9,L6⟩ r
 |_=>[]
def JMd.ok(a:JMd):Prop:=Ae .u64 a.r0=ZB/\Ae .u64 a.r1=ZB/\Ae .u64 a.r2=ZB/\Ae .u64 a.r3=ZB/\Ae .u64 a.r4=ZB/\Ae .u64 a.r5=ZB/\Ae .u64 a.r6=ZB/\Ae .u64 a.r7=ZB/\Ae .u64 a.r8=ZB/\Ae .u64 a.r9=ZB/\Ae .u64 a.r10=ZB
def kJMd:List CK:=[.any,.any,.any,.int .u64,.int .u64,.int .u64,.int .u64,.int .u64,.int .u64,.int .u64,.int .u64,.int .u64,.int .u64,.int .u64,.any,.any,.any,.any,.any,.any,.any,.any,.any,.any,.any,.any,.any,.any,.any,.any,.any,.any,.any,.any,.any,.any,.any,.any,.any,.any,.any,.any,.any,.any,.any,.any,.any,.any,.any,.any,.any,.any,.any,.any,.any,.any,.any,.any,.any,.any,.any,.any,.any,.any,.any,.any,.any,.any,.any,.any,.any,.any,.any,.any,.any,.any,.any,.any,.any,.any,.any,.any]
def v_JMd(t:List VK):List VK:=.int .u64::.int .u64::.int .u64::.int .u64::.int .u64::.int .u64::.int .u64::.int .u64::.int .u64::.int .u64::.int .u64::t
def d_JMd(a:JMd)(t:List Dt):List Dt:=.z a.r0::.z a.r1::.z a.r2::.z a.r3::.z a.r4::.z a.r5::.z a.r6::.z a.r7::.z a.r8::.z a.r9::.z a.r10::t
def aqR{l:List VK}{p:List Dt->Prop}(h:∀a:JMd,JMd.ok a->aO l fun r=>p (d_JMd a r)):aO (v_JMd l) p:=fun x0 Dd x1 Dp x2 Gp x3 Ge x4 L7 x5 KW x6 L3 x7 MC x8 Mi x9 Ss JB Ll=>h ⟨x0,x1,x2,x3,x4,x5,x6,x7,x8,x9,JB⟩ ⟨Dd,Dp,Gp,Ge,L7,KW,L3,MC,Mi,Ss,Ll⟩
def RL:=aI @v_JMd.eq_1 (aI @d_JMd.eq_1 (aI @rd_JMd.eq_1 (@kJMd.eq_1)))
structure F64 where
 f0:Int
 f1:Int
 f2:Int
 f3:Int
 f4:Int
 f5:Int
 f6:Int
 f7:Int
 f8:Int
 f9:Int
 f10:Int
 f11:Int
 f12:Int
 f13:Int
 f14:Int
 f15:Int
 f16:Int
 f17:Int
 f18:Int
 f19:Int
 f20:Int
 f21:Int
 f22:Int
 f23:Int
 f24:Int
 f25:Int
 f26:Int
 f27:Int
 f28:Int
 f29:Int
 f30:Int
 f31:Int
 f32:Int
 f33:Int
 f34:Int
 f35:Int
 f36:Int
 f37:Int
 f38:Int
 f39:Int
 f40:Int
 f41:Int
 f42:Int
 f43:Int
 f44:Int
 f45:Int
 f46:Int
 f47:Int
 f48:Int
 f49:Int
 f50:Int
 f51:Int
 f52:Int
 f53:Int
 f54:Int
 f55:Int
 f56:Int
 f57:Int
 f58:Int
 f59:Int
 f60:Int
 f61:Int
 f62:Int
 f63:Int
def F64.eta(a:F64):(⟨a.f0,a.f1,a.f2,a.f3,a.f4,a.f5,a.f6,a.f7,a.f8,a.f9,a.f10,a.f11,a.f12,a.f13,a.f14,a.f15,a.f16,a.f17,a.f18,a.f19,a.f20,a.f21,a.f22,a.f23,a.f24,a.f25,a.f26,a.f27,a.f28,a.f29,a.f30,a.f31,a.f32,a.f33,a.f34,a.f35,a.f36,a.f37,a.f38,a.f39,a.f40,a.f41,a.f42,a.f43,a.f44,a.f45,a.f46,a.f47,a.f48,a.f49,a.f50,a.f51,a.f52,a.f53,a.f54,a.f55,a.f56,a.f57,a.f58,a.f59,a.f60,a.f61,a.f62,a.f63⟩:F64)=a:=rfl
def rd_F64(k:F64->List Dt->List Dt):List Dt->List Dt:=DG fun z0 z1 z2 z3 z4 z5 z6 z7=>DG fun z8 z9 L6 SP QW SB Qv R7=>DG fun SI R8 R9 Q1 RH Ry PM QC=>DG fun Rp Qi SS RO SX TA RD QP=>DG fun QF RJ RX S6 QU Sw QS SN=>DG fun SZ Sj S8 RY Q0 R6 RU Sv=>DG fun QB Ra QX QA R1 Ti Qk Qu=>DG fun Qr QN QH Rq Rz Rr R3 QR=>fun r=>k ⟨z0,z1,z2,z3,z4,z5,z6,z7,z8,z9,L6,SP,QW,SB,Qv,R7,SI,R8,R9,Q1,RH,Ry,PM,QC,Rp,Qi,SS,RO,SX,TA,RD,QP,QF,RJ,RX,S6,QU,Sw,QS,SN,SZ,Sj,S8,RY,Q0,R6,RU,Sv,QB,Ra,QX,QA,R1,Ti,Qk,Qu,Qr,QN,QH,Rq,Rz,Rr,R3,QR⟩ r
def F64.ok(a:F64):Prop:=Ae .u8 a.f0=ZB/\Ae .u8 a.f1=ZB/\Ae .u8 a.f2=ZB/\Ae .u8 a.f3=ZB/\Ae .u8 a.f4=ZB/\Ae .u8 a.f5=ZB/\Ae .u8 a.f6=ZB/\Ae .u8 a.f7=ZB/\Ae .u8 a.f8=ZB/\Ae .u8 a.f9=ZB/\Ae .u8 a.f10=ZB/\Ae .u8 a.f11=ZB/\Ae .u8 a.f12=ZB/\Ae .u8 a.f13=ZB/\Ae .u8 a.f14=ZB/\Ae .u8 a.f15=ZB/\Ae .u8 a.f16=ZB/\Ae .u8 a.f17=ZB/\Ae .u8 a.f18=ZB/\Ae .u8 a.f19=ZB/\Ae .u8 a.f20=ZB/\Ae .u8 a.f21=ZB/\Ae .u8 a.f22=ZB/\Ae .u8 a.f23=ZB/\Ae .u8 a.f24=ZB/\Ae .u8 a.f25=ZB/\Ae .u8 a.f26=ZB/\Ae .u8 a.f27=ZB/\Ae .u8 a.f28=ZB/\Ae .u8 a.f29=ZB/\Ae .u8 a.f30=ZB/\Ae .u8 a.f31=ZB/\Ae .u8 a.f32=ZB/\Ae .u8 a.f33=ZB/\Ae .u8 a.f34=ZB/\Ae .u8 a.f35=ZB/\Ae .u8 a.f36=ZB/\Ae .u8 a.f37=ZB/\Ae .u8 a.f38=ZB/\Ae .u8 a.f39=ZB/\Ae .u8 a.f40=ZB/\Ae .u8 a.f41=ZB/\Ae .u8 a.f42=ZB/\Ae .u8 a.f43=ZB/\Ae .u8 a.f44=ZB/\Ae .u8 a.f45=ZB/\Ae .u8 a.f46=ZB/\Ae .u8 a.f47=ZB/\Ae .u8 a.f48=ZB/\Ae .u8 a.f49=ZB/\Ae .u8 a.f50=ZB/\Ae .u8 a.f51=ZB/\Ae .u8 a.f52=ZB/\Ae .u8 a.f53=ZB/\Ae .u8 a.f54=ZB/\Ae .u8 a.f55=ZB/\Ae .u8 a.f56=ZB/\Ae .u8 a.f57=ZB/\Ae .u8 a.f58=ZB/\Ae .u8 a.f59=ZB/\Ae .u8 a.f60=ZB/\Ae .u8 a.f61=ZB/\Ae .u8 a.f62=ZB/\Ae .u8 a.f63=ZB
def kF64:List CK:=[.int .u8,.int .u8,.int .u8,.int .u8,.int .u8,.int .u8,.int .u8,.int .u8,.int .u8,.int .u8,.int .u8,.int .u8,.int .u8,.int .u8,.int .u8,.int .u8,.int .u8,.int .u8,.int .u8,.int .u8,.int .u8,.int .u8,.int .u8,.int .u8,.int .u8,.int .u8,.int .u8,.int .u8,.int .u8,.int .u8,.int .u8,.int .u8,.int .u8,.int .u8,.int .u8,.int .u8,.int .u8,.int .u8,.int .u8,.int .u8,.int .u8,.int .u8,.int .u8,.int .u8,.int .u8,.int .u8,.int .u8,.int .u8,.int .u8,.int .u8,.int .u8,.int .u8,.int .u8,.int .u8,.int .u8,.int .u8,.int .u8,.int .u8,.int .u8,.int .u8,.int .u8,.int .u8,.int .u8,.int .u8]
def v_F64(t:List VK):List VK:=.int .u8::.int .u8::.int .u8::.int .u8::.int .u8::.int .u8::.int .u8::.int .u8::.int .u8::.int .u8::.int .u8::.int .u8::.int .u8::.int .u8::.int .u8::.int .u8::.int .u8::.int .u8::.int .u8::.int .u8::.int .u8::.int .u8::.int .u8::.int .u8::.int .u8::.int .u8::.int .u8::.int .u8::.int .u8::.int .u8::.int .u8::.int .u8::.int .u8::.int .u8::.int .u8::.int .u8::.int .u8::.int .u8::.int .u8::.int .u8::.int .u8::.int .u8::.int .u8::.int .u8::.int .u8::.int .u8::.int .u8::.int .u8::.int .u8::.int .u8::.int .u8::.int .u8::.int .u8::.int .u8::.int .u8::.int .u8::.int .u8::.int .u8::.int .u8::.int .u8::.int .u8::.int .u8::.int .u8::.int .u8::t
def d_F64(a:F64)(t:List Dt):List Dt:=.z a.f0::.z a.f1::.z a.f2::.z a.f3::.z a.f4::.z a.f5::.z a.f6::.z a.f7::.z a.f8::.z a.f9::.z a.f10::.z a.f11::.z a.f12::.z a.f13::.z a.f14::.z a.f15::.z a.f16::.z a.f17::.z a.f18::.z a.f19::.z a.f20::.z a.f21::.z a.f22::.z a.f23::.z a.f24::.z a.f25::.z a.f26::.z a.f27::.z a.f28::.z a.f29::.z a.f30::.z a.f31::.z a.f32::.z a.f33::.z a.f34::.z a.f35::.z a.f36::.z a.f37::.z a.f38::.z a.f39::.z a.f40::.z a.f41::.z a.f42::.z a.f43::.z a.f44::.z a.f45::.z a.f46::.z a.f47::.z a.f48::.z a.f49::.z a.f50::.z a.f51::.z a.f52::.z a.f53::.z a.f54::.z a.f55::.z a.f56::.z a.f57::.z a.f58::.z a.f59::.z a.f60::.z a.f61::.z a.f62::.z a.f63::t
def S9:=aI @v_F64.eq_1 (aI @d_F64.eq_1 (aI @rd_F64.eq_1 (@kF64.eq_1)))
def EB(m:JMd)(x:Ins):Int:=if x.br=ZB then[m.r0,m.r1,m.r2,m.r3,m.r4,m.r5,m.r6,m.r7,m.r8,m.r9,m.r10].getD x.s.toNat 0 else IntKind.u64.wrap x.imm
def f64(l:LL):F64:=⟨gt l 0 0,gt l 1 0,gt l 2 0,gt l 3 0,gt l 4 0,gt l 5 0,gt l 6 0,gt l 7 0,gt l 8 0,gt l 9 0,gt l 10 0,gt l 11 0,gt l 12 0,gt l 13 0,gt l 14 0,gt l 15 0,gt l 16 0,gt l 17 0,gt l 18 0,gt l 19 0,gt l 20 0,gt l 21 0,gt l 22 0,gt l 23 0,gt l 24 0,gt l 25 0,gt l 26 0,gt l 27 0,gt l 28 0,gt l 29 0,gt l 30 0,gt l 31 0,gt l 32 0,gt l 33 0,gt l 34 0,gt l 35 0,gt l 36 0,gt l 37 0,gt l 38 0,gt l 39 0,gt l 40 0,gt l 41 0,gt l 42 0,gt l 43 0,gt l 44 0,gt l 45 0,gt l 46 0,gt l 47 0,gt l 48 0,gt l 49 0,gt l 50 0,gt l 51 0,gt l 52 0,gt l 53 0,gt l 54 0,gt l 55 0,gt l 56 0,gt l 57 0,gt l 58 0,gt l 59 0,gt l 60 0,gt l 61 0,gt l 62 0,gt l 63 0⟩
def ag9(k:q2)(h:p->q=q2:=by intro e;(try simp only[e,ay,af,-eq_self]);rfl):p->q:=fun e=>(h e).symm▸k
def sV:List (Nat×TI):=[(2,CB),
 (3,CX),
 (4,Ez),
 (5,KQ),
 (22,vd),
 (24,vb),
 (25,aoJ),
 (26,aoI),
 (38,fT),
 (39,eX),
 (40,WH),
 (60,RR),
 (61,Q5),
 (63,Sn),
 (66,qP),
 (87,arH),
 (89,arG),
 (138,al4),
 (178,aeE)]
def eV:∀t i,(t,i)∈sV->TIok ZE t i:=bi (DU (z:=lQ) ⟨lj,ig⟩ B1) B1 (by kernel_rfl)
def c_rhol:Cd:=⟨60,[.one (.int .i8),.one (.int .i8),.one (.int .u64),.one (.int .u64)],[.one .bool,.one (.int .i64)],rdZ fun cc=>rdZ fun l=>rdZ fun x=>rdZ fun y _=>[.z (AD ((DX cc l&&lP cc l x y))),.z (if DX cc l=ZB then 0 else 2)],T0⟩
def ao6(cc:Int)(Cr:Ae .i8 cc=ZB)(l:Int)(hl:Ae .i8 l=ZB)(x:Int)(hx:Ae .u64 x=ZB)(y:Int)(hy:Ae .u64 y=ZB):(∀w,Calls ZE 60 #[.int .i8 cc,.int .i8 l,.int .u64 x,.int .u64 y] w fun e w'=>e=.returned (.tuple #[.bool ((DX cc l&&lP cc l x y)),.int .i64 (if DX cc l=ZB then 0 else 2)])/\Ext w w')/\fP (.tuple #[.bool ((DX cc l&&lP cc l x y)),.int .i64 (if DX cc l=ZB then 0 else 2)])=ZB:=by
 have gx:=cU hx;have gy:=cU hy;cases hk:DX cc l
 .refine⟨fun w=>(acR cc l x y w ?_).mono ?_,by simp[fP,fc,fg];decide⟩
  .unfold DX at hk;rw[Bool.and_eq_false_iff,Bool.and_eq_false_iff]at hk;rcases hk with(hk|hk)|hk
   .have:=Ab hk;simp;omega
   .have:=Ab hk;simp;omega
   .rw[hk];simp
  .rintro e w' ⟨rfl,rfl⟩;exact⟨by simp,Ext.refl _⟩
 .unfold DX at hk;simp only[ne,aB]at hk;refine⟨fun w=>(acS cc l x y w gx.1 gx.2 gy.1 gy.2 hk.1.1 hk.1.2 hk.2).mono ?_,by simp[fP,fc,fg];decide⟩;rintro e w' ⟨rfl,rfl⟩;exact⟨by simp,Ext.refl _⟩
def as1:c_rhol.Ok ZE:=fun hF hP=>by
 refine SmOk.pure (s:=c_rhol.m _) hF rfl rfl fun xs vals w h=> ?_;obtain⟨_,_,_,rfl,⟨x0,rfl,rfl,Dd⟩,h⟩:=h;obtain⟨_,_,_,rfl,⟨x1,rfl,rfl,Dp⟩,h⟩:=h;obtain⟨_,_,_,rfl,⟨x2,rfl,rfl,Gp⟩,h⟩:=h;obtain⟨_,_,_,rfl,⟨x3,rfl,rfl,Ge⟩,h⟩:=h;obtain⟨rfl,rfl⟩:=h;have q:=ao6 x0 Dd x1 Dp x2 Gp x3 Ge;refine⟨_,.inr ⟨dD Tryz.func60 (by kernel_rfl) (by kernel_rfl) _ w,q.1 w⟩,?_,fun U v0 nid j he=> ?_⟩
 .have q2:=q.2;simp[fP,fc,fg]at q2;simp[c_rhol,Cd.m,tp,rdZ,rdB,rdL,List.flatMap_cons,List.flatMap_nil,Sh.cks,List.append_nil,ZJ,List.nil_append,b2i_one,gE,q2]
 .simp only[c_rhol,Cd.m,tp,rdZ,rdB,rdL,List.flatMap_cons,List.flatMap_nil,Sh.cks,List.append_nil,ZJ,List.nil_append,b2i_one,eqs,dI,dB,cy,lY,bJ,Nat.add_zero,Nat.reduceAdd,and_true]at he;simp[c_rhol,Cd.m,tp,rdZ,rdB,rdL,List.flatMap_cons,List.flatMap_nil,Sh.cks,List.append_nil,ZJ,List.nil_append,b2i_one,fY,bH,aE,V.den,C.den,Af,BJ,cm,E.I,E.B,he]
def c_jsd:Cd:=⟨98,[.one (.int .i64)],[.one .bool],rdZ fun n _=>[.z (AD (aN n))],T0⟩
def amo:Tr:=
(.br (.eq (.w 0) (.p 1))
zlT
(.br (.eq (.w 0) (.p 2))
zlT
(.br (.eq (.w 0) (.p 4))
zlT
(.u (.j (.eq (.w 0) (.p 8)) .nil)))))
def atd:c_jsd.Ok ZE:=
 AS amo [.int .i64] eV AI Tryz.func98<|fun n hn hp U g=>by
 simp only[AA,Nat.reduceAdd]at g;simp only[amo,c_jsd,Ai,Nat.reduceSub,Nat.reduceAdd,-eq_self,ay,af,g]
 .repeat' first|apply aI<;>intro c|exact Xt
def kA:List Dt->Prop
 |[.z x0,.z x1,.z x2,.l x3]=>let f (at_:Int) (n:Int) (base:Int) (b:LL):Prop:=(1<=n/\n<=8)/\b.length<=1048576;f x0 x1 x2 x3
 |_=>False
def c_jwith:Cd:=⟨135,[.one (.int .u64),.one (.int .i64),.one (.int .u64),.one (.sl [ZA .u8] 5)],[.one (.int .i64),.one .bool],rdZ fun at_=>rdZ fun n=>rdZ fun base=>rdL fun b _=>[.z (Mm base b at_),.z (AD (inr base b at_ n))],kA⟩
def aaU:Tr:=
(.br (.lt (.w 0) (.w 2))
(.u (.cons (.p 0) (.j (.tt ZC) .nil)))
(.br (.lt (.f .sub .u64 (.w 0) (.w 2)) (.F .u64 (.len (.g 3))))
(.u (.cons (.F .i64 (.f .sub .u64 (.w 0) (.w 2))) (.j (.not (.lt (.f .sub .i64 (.len (.g 3)) (.F .i64 (.f .sub .u64 (.w 0) (.w 2)))) (.w 1))) .nil)))
(.u (.cons (.p 0) (.j (.tt ZC) .nil)))))
def ahI:c_jwith.Ok ZE:=
 AS (hl:=.inr (.inl ⟨(fun xs (h:kA xs) L hL=>by unfold kA at h;split at h<;>first|exact h.elim|(simp at hL;rcases hL with rfl;exact cX h.2 ST)),rfl⟩)) aaU [.int .u64,.int .i64,.int .u64,.list [ZA .u8]] eV AI Tryz.func135<|fun at_ Ik n hn base Cs b hb hp U g=>by
 simp only[c_jwith,kA,b2i_one,ay,af]at hp;simp only[AA,Nat.reduceAdd]at g;simp only[aaU,c_jwith,Ai,Nat.reduceSub,Nat.reduceAdd,-eq_self,ay,af,g];have Jv:=(wW Cs).1;constructor<;>intro c0
 .obtain⟨q1,q2⟩:=aus (l:=b) (n:=n) c0;rw[<-q1,<-q2]
 constructor<;>intro c1
 .obtain⟨q1,q2⟩:=aut (l:=b) (n:=n) Ik Jv hp.2 hp.1.1 hp.1.2 c0 c1;rw[q2,q1]
 .obtain⟨q1,q2⟩:=arw (l:=b) (n:=n) Ik Jv hp.2 hp.1.1 c0 c1;rw[<-q1,<-q2]
def jK:List Dt->Prop
 |[.l x0,.l x1,.l x2,.l x3,.z x4,.z x5]=>let f (m:JMem) (at_:Int) (n:Int):Prop:=m.l0=[]/\m.l1.length<=256/\m.l2.length=64/\m.l3=[];f ⟨x0,x1,x2,x3⟩ x4 x5
 |_=>False
def c_jmread:Cd:=⟨57,[.ptr kJMem,.one (.int .u64),.one (.int .i64)],[.one (.int .u64),.one (.int .i64)],rd_JMem fun m=>rdZ fun at_=>rdZ fun n _=>[.z (E7 (Gm m.l0 m.l1 m.l2 m.l3) at_ n),.z (H3 (Gm m.l0 m.l1 m.l2 m.l3) at_ n)],jK⟩
def S5:E:=(.cons (.p 0) (.cons (.f .sub .i64 (.w 5) (.p 1)) .nil))
def pE:Tr:=
(.call 0 [.bool] (.cons (.w 5) .nil) 6
(.br (.s 6)
(.call 1 [.int .i64,.bool] (.vs 4 2 (.cons (.p 1048576) (.N (.g 0) .nil))) 7
(.br (.s 8)
(.loop 0 9 [.int .u64,.int .i64] S5
(.br (.lt (.w 10) (.p 0))
(.u (.cons (.w 9) (.cons (.p 0) .nil)))
(.br (.lt (.f .add .i64 (.w 7) (.w 10)) (.p 0))
.panic
(.br (.lt (.f .add .i64 (.w 7) (.w 10)) (.len (.g 0)))
(.next 0 (.cons (.f .or .u64 (.f .shl .u64 (.w 9) (.p 8)) (.F .u64 (.get (.g 0) (.f .add .i64 (.w 7) (.w 10)) 0))) (.cons (.f .sub .i64 (.w 10) (.p 1)) .nil)))
.panic))))
(.call 1 [.int .i64,.bool] (.vs 4 2 (.cons (.p 2097152) (.N (.g 1) .nil))) 9
(.br (.s 10)
(.loop 0 11 [.int .u64,.int .i64] S5
(.br (.lt (.w 12) (.p 0))
(.u (.cons (.w 11) (.cons (.p 0) .nil)))
(.br (.lt (.f .add .i64 (.w 9) (.w 12)) (.p 0))
.panic
(.br (.lt (.f .add .i64 (.w 9) (.w 12)) (.len (.g 1)))
(.next 0 (.cons (.f .or .u64 (.f .shl .u64 (.w 11) (.p 8)) (.F .u64 (.get (.g 1) (.f .add .i64 (.w 9) (.w 12)) 0))) (.cons (.f .sub .i64 (.w 12) (.p 1)) .nil)))
.panic))))
(.call 1 [.int .i64,.bool] (.vs 4 2 (.cons (.p 3145728) (.N (.g 2) .nil))) 11
(.br (.s 12)
(.loop 0 13 [.int .u64,.int .i64] S5
(.br (.lt (.w 14) (.p 0))
(.u (.cons (.w 13) (.cons (.p 0) .nil)))
(.br (.lt (.f .add .i64 (.w 11) (.w 14)) (.p 0))
.panic
(.br (.lt (.f .add .i64 (.w 11) (.w 14)) (.len (.g 2)))
(.next 0 (.cons (.f .or .u64 (.f .shl .u64 (.w 13) (.p 8)) (.F .u64 (.get (.g 2) (.f .add .i64 (.w 11) (.w 14)) 0))) (.cons (.f .sub .i64 (.w 14) (.p 1)) .nil)))
.panic))))
(.call 1 [.int .i64,.bool] (.vs 4 2 (.cons (.p 4194304) (.N (.g 3) .nil))) 13
(.br (.s 14)
(.loop 0 15 [.int .u64,.int .i64] S5
(.br (.lt (.w 16) (.p 0))
(.u (.cons (.w 15) (.cons (.p 0) .nil)))
(.br (.lt (.f .add .i64 (.w 13) (.w 16)) (.p 0))
.panic
(.br (.lt (.f .add .i64 (.w 13) (.w 16)) (.len (.g 3)))
(.next 0 (.cons (.f .or .u64 (.f .shl .u64 (.w 15) (.p 8)) (.F .u64 (.get (.g 3) (.f .add .i64 (.w 13) (.w 16)) 0))) (.cons (.f .sub .i64 (.w 16) (.p 1)) .nil)))
.panic))))
(.u (.cons (.p 0) (.cons (.p 20) .nil)))))))))))
(.u (.cons (.p 0) (.cons (.p 2) .nil)))))
def agp:cb sV (Fq 0 [c_jsd,c_jwith]) [(99,Tryz.f99,[],[])] [(10,[.tmpI 11 .u64,.tmpI 12 .i64]++E2 [(30,14)]),(999998,[])] [] 200 Tryz.f57 c_jmread.a c_jmread.r (tp c_jmread.r) (v_JMem [.int .u64,.int .i64]) pE:=E1 (by kernel_rfl)
def ak2:c_jmread.Ok ZE:=
 GE (hl:=.inr (.inl ⟨(fun xs (h:jK xs) L hL=>by unfold jK at h;split at h<;>first|exact h.elim|(simp at hL;rcases hL with rfl|rfl|rfl|rfl;exact cX (Nat.le_of_eq (congrArg List.length h.1)) ST;exact cX h.2.1 ST;exact cX (Nat.le_of_eq h.2.2.1) ST;exact cX (Nat.le_of_eq (congrArg List.length h.2.2.2)) ST)),rfl⟩)) pE (v_JMem [.int .u64,.int .i64]) eV (Am atd<|Am ahI AI) Tryz.func57 (GC Tryz.func99 E0) agp<|ur fun m hm=>fun at_ Ik n hn hp U g=>by
 simp only[c_jmread,jK,jT,b2i_one,ay,af]at hp;have Aq:=g;simp only[jT,AA,Nat.reduceAdd]at g;simp only[pE,S5,c_jsd,c_jwith,c_jmread,kA,jT,Ai,Nat.reduceSub,Nat.reduceAdd,-eq_self,ay,af,g];obtain⟨Tc,K0,M6,M5,QI,k0_i5⟩:=g;obtain⟨r0,r1,r2,r3⟩:=hm;have Od:m.l0.length<=1048576:=by rw[hp.1];decide
 have Gw:m.l1.length<=1048576:=cX hp.2.1 ST;have H5:m.l2.length<=1048576:=by rw[hp.2.2.1];decide
 have MM:m.l3.length<=1048576:=by rw[hp.2.2.2];decide
 refine ag9 ?_;constructor<;>intro c0;refine⟨?_,?_⟩
 .exact⟨by have:=bL c0;omega,Od⟩
 intro e;have RZ:=e.1;(try simp only[e,ay,af,-eq_self]);clear e;constructor<;>intro c1;have hs:aN n=ZB:=c0;have LB:=bL hs;have f0:inr 1048576 m.l0 at_ n=ZB:=c1;have W:=Win.of f0 Ik ST Od Fn Fn;refine⟨fun ds=>∃k:Nat,ds=[.z (CI ((BR 1048576 m.l0 at_ n).drop k)),.z ((k:Int)-1)]/\k<=n.toNat,fun ds=>(dI ds 1+1).toNat,⟨n.toNat,by rw[J5 Fn Fn,List.drop_eq_nil_of_le Yf,show((n.toNat:Nat):Int)-1=n-1 by omega];rfl,ZI _⟩,?_⟩;intro U1 AY _ Ba;obtain⟨k,Bq,hk⟩:=Ba;simp only[Be,L4,and_true]at Bq;obtain⟨Eu,D9⟩:=Bq;have QJ:=kL AY Tc;have Qz:U1.i 7=at_-1048576:=(kI AY RZ).trans (ri f0 Fn);simp only[Eu,D9,QJ,Qz,-eq_self];constructor<;>intro c2
 .have hs:aN n=ZB:=c0;have LB:=bL hs;have f0:inr 1048576 m.l0 at_ n=ZB:=c1;obtain rfl:k=0:=by have:=Ah c2;omega
  simp[E7,H3,Mem.reg,Gm,hs,f0]
 constructor<;>intro c3
 .have w1:=W.lo;have w2:=W.hi;have w3:=W.len;obtain⟨j,rfl⟩:∃j,k=j+1:=⟨k-1,by have:=Ab c2;omega⟩
  rw[show(((j+1:Nat):Int)-1)=(j:Int) by omega,(W.byte Od Fn).1]at c3;exact absurd (Ah c3) Fn
 constructor<;>intro c4
 .obtain⟨j,rfl⟩:∃j,k=j+1:=⟨k-1,by have:=Ab c2;omega⟩
  exact W.next Od r0 hk
 .have w1:=W.lo;have w2:=W.hi;have w3:=W.len;obtain⟨j,rfl⟩:∃j,k=j+1:=⟨k-1,by have:=Ab c2;omega⟩
  rw[show(((j+1:Nat):Int)-1)=(j:Int) by omega,(W.byte Od Fn).1]at c4;exact absurd (Ab c4) Fn
 refine⟨?_,?_⟩
 .exact⟨by have:=bL c0;omega,Gw⟩
 intro e;have R2:=e.1;(try simp only[e,ay,af,-eq_self]);clear e;constructor<;>intro c5;have hs:aN n=ZB:=c0;have LB:=bL hs;have f0:inr 1048576 m.l0 at_ n=ZC:=c1;have f1:inr 2097152 m.l1 at_ n=ZB:=c5;have W:=Win.of f1 Ik ST Gw Fn Fn;refine⟨fun ds=>∃k:Nat,ds=[.z (CI ((BR 2097152 m.l1 at_ n).drop k)),.z ((k:Int)-1)]/\k<=n.toNat,fun ds=>(dI ds 1+1).toNat,⟨n.toNat,by rw[J5 Fn Fn,List.drop_eq_nil_of_le Yf,show((n.toNat:Nat):Int)-1=n-1 by omega];rfl,ZI _⟩,?_⟩;intro U1 AY _ Ba;obtain⟨k,Bq,hk⟩:=Ba;simp only[Be,L4,and_true]at Bq;obtain⟨D1,FL⟩:=Bq;have Jj:=kL AY K0;have Eu:U1.i 9=at_-2097152:=(kI AY R2).trans (ri f1 Fn);simp only[D1,FL,Jj,Eu,-eq_self];constructor<;>intro c6
 .have hs:aN n=ZB:=c0;have LB:=bL hs;have f0:inr 1048576 m.l0 at_ n=ZC:=c1;have f1:inr 2097152 m.l1 at_ n=ZB:=c5;obtain rfl:k=0:=by have:=Ah c6;omega
  simp[E7,H3,Mem.reg,Gm,hs,f0,f1]
 constructor<;>intro c7
 .have w1:=W.lo;have w2:=W.hi;have w3:=W.len;obtain⟨j,rfl⟩:∃j,k=j+1:=⟨k-1,by have:=Ab c6;omega⟩
  rw[show(((j+1:Nat):Int)-1)=(j:Int) by omega,(W.byte Gw Fn).1]at c7;exact absurd (Ah c7) Fn
 constructor<;>intro c8
 .obtain⟨j,rfl⟩:∃j,k=j+1:=⟨k-1,by have:=Ab c6;omega⟩
  exact W.next Gw r1 hk
 .have w1:=W.lo;have w2:=W.hi;have w3:=W.len;obtain⟨j,rfl⟩:∃j,k=j+1:=⟨k-1,by have:=Ab c6;omega⟩
  rw[show(((j+1:Nat):Int)-1)=(j:Int) by omega,(W.byte Gw Fn).1]at c8;exact absurd (Ab c8) Fn
 refine⟨?_,?_⟩
 .exact⟨by have:=bL c0;omega,H5⟩
 intro e;have On:=e.1;(try simp only[e,ay,af,-eq_self]);clear e;constructor<;>intro c9;have hs:aN n=ZB:=c0;have LB:=bL hs;have f0:inr 1048576 m.l0 at_ n=ZC:=c1;have f1:inr 2097152 m.l1 at_ n=ZC:=c5;have f2:inr 3145728 m.l2 at_ n=ZB:=c9;have W:=Win.of f2 Ik ST H5 Fn Fn;refine⟨fun ds=>∃k:Nat,ds=[.z (CI ((BR 3145728 m.l2 at_ n).drop k)),.z ((k:Int)-1)]/\k<=n.toNat,fun ds=>(dI ds 1+1).toNat,⟨n.toNat,by rw[J5 Fn Fn,List.drop_eq_nil_of_le Yf,show((n.toNat:Nat):Int)-1=n-1 by omega];rfl,ZI _⟩,?_⟩;intro U1 AY _ Ba;obtain⟨k,Bq,hk⟩:=Ba;simp only[Be,L4,and_true]at Bq;obtain⟨D2,FH⟩:=Bq;have So:=kL AY M6;have D1:U1.i 11=at_-3145728:=(kI AY On).trans (ri f2 Fn);simp only[D2,FH,So,D1,-eq_self];constructor<;>intro BF
 .have hs:aN n=ZB:=c0;have LB:=bL hs;have f0:inr 1048576 m.l0 at_ n=ZC:=c1;have f1:inr 2097152 m.l1 at_ n=ZC:=c5;have f2:inr 3145728 m.l2 at_ n=ZB:=c9;obtain rfl:k=0:=by have:=Ah BF;omega
  simp[E7,H3,Mem.reg,Gm,hs,f0,f1,f2]
 constructor<;>intro CD
 .have w1:=W.lo;have w2:=W.hi;have w3:=W.len;obtain⟨j,rfl⟩:∃j,k=j+1:=⟨k-1,by have:=Ab BF;omega⟩
  rw[show(((j+1:Nat):Int)-1)=(j:Int) by omega,(W.byte H5 Fn).1]at CD;exact absurd (Ah CD) Fn
 constructor<;>intro B9
 .obtain⟨j,rfl⟩:∃j,k=j+1:=⟨k-1,by have:=Ab BF;omega⟩
  exact W.next H5 r2 hk
 .have w1:=W.lo;have w2:=W.hi;have w3:=W.len;obtain⟨j,rfl⟩:∃j,k=j+1:=⟨k-1,by have:=Ab BF;omega⟩
  rw[show(((j+1:Nat):Int)-1)=(j:Int) by omega,(W.byte H5 Fn).1]at B9;exact absurd (Ab B9) Fn
 refine⟨?_,?_⟩
 .exact⟨by have:=bL c0;omega,MM⟩
 intro e;have Ni:=e.1;(try simp only[e,ay,af,-eq_self]);clear e;constructor<;>intro Cq;have hs:aN n=ZB:=c0;have LB:=bL hs;have f0:inr 1048576 m.l0 at_ n=ZC:=c1;have f1:inr 2097152 m.l1 at_ n=ZC:=c5;have f2:inr 3145728 m.l2 at_ n=ZC:=c9;have f3:inr 4194304 m.l3 at_ n=ZB:=Cq;have W:=Win.of f3 Ik ST MM Fn Fn;refine⟨fun ds=>∃k:Nat,ds=[.z (CI ((BR 4194304 m.l3 at_ n).drop k)),.z ((k:Int)-1)]/\k<=n.toNat,fun ds=>(dI ds 1+1).toNat,⟨n.toNat,by rw[J5 Fn Fn,List.drop_eq_nil_of_le Yf,show((n.toNat:Nat):Int)-1=n-1 by omega];rfl,ZI _⟩,?_⟩;intro U1 AY _ Ba;obtain⟨k,Bq,hk⟩:=Ba;simp only[Be,L4,and_true]at Bq;obtain⟨Fb,FT⟩:=Bq;have QV:=kL AY M5;have D2:U1.i 13=at_-4194304:=(kI AY Ni).trans (ri f3 Fn);simp only[Fb,FT,QV,D2,-eq_self];constructor<;>intro CF
 .have hs:aN n=ZB:=c0;have LB:=bL hs;have f0:inr 1048576 m.l0 at_ n=ZC:=c1;have f1:inr 2097152 m.l1 at_ n=ZC:=c5;have f2:inr 3145728 m.l2 at_ n=ZC:=c9;have f3:inr 4194304 m.l3 at_ n=ZB:=Cq;obtain rfl:k=0:=by have:=Ah CF;omega
  simp[E7,H3,Mem.reg,Gm,hs,f0,f1,f2,f3]
 constructor<;>intro C3
 .have w1:=W.lo;have w2:=W.hi;have w3:=W.len;obtain⟨j,rfl⟩:∃j,k=j+1:=⟨k-1,by have:=Ab CF;omega⟩
  rw[show(((j+1:Nat):Int)-1)=(j:Int) by omega,(W.byte MM Fn).1]at C3;exact absurd (Ah C3) Fn
 constructor<;>intro Dk
 .obtain⟨j,rfl⟩:∃j,k=j+1:=⟨k-1,by have:=Ab CF;omega⟩
  exact W.next MM r3 hk
 .have w1:=W.lo;have w2:=W.hi;have w3:=W.len;obtain⟨j,rfl⟩:∃j,k=j+1:=⟨k-1,by have:=Ab CF;omega⟩
  rw[show(((j+1:Nat):Int)-1)=(j:Int) by omega,(W.byte MM Fn).1]at Dk;exact absurd (Ab Dk) Fn
 .have hs:aN n=ZB:=c0;have LB:=bL hs;have f0:inr 1048576 m.l0 at_ n=ZC:=c1;have f1:inr 2097152 m.l1 at_ n=ZC:=c5;have f2:inr 3145728 m.l2 at_ n=ZC:=c9;have f3:inr 4194304 m.l3 at_ n=ZC:=Cq;simp[E7,H3,Mem.reg,Gm,hs,f0,f1,f2,f3]
 .have hs:aN n=ZC:=c0;simp[E7,H3,hs]
def pL:List Dt->Prop
 |[.z x0,.z x1,.z x2,.z x3,.z x4,.z x5,.z x6,.z x7,.z x8]=>let f (x:Ins):Prop:=A2 x=ZB;f ⟨x0,x1,x2,x3,(x4==1),x5,x6,x7,x8⟩
 |_=>False
def c_jreads:Cd:=⟨53,[.agg kIns],[.one (.int .i64)],rd_Ins fun x _=>[.z (bc x)],pL⟩
def anx:Tr:=(.br (.lt (.w 6) (.p 0))
.panic
(.u (.cons (.f .or .i64 (.f .shl .i64 (.p 1) (.w 5)) (.f .shl .i64 (.p 1) (.w 6))) .nil)))
def anz:Tr:=(.br (.lt (.w 5) (.p 0))
.panic
(.br (.s 4)
anx
(.u (.cons (.f .shl .i64 (.p 1) (.w 5)) .nil))))
def pD:Tr:=
(.br (.eq (.w 0) (.p 0))
(.br (.eq (.w 1) (.p 11))
(.br (.s 4)
(.br (.lt (.w 6) (.p 0))
.panic
(.u (.cons (.f .or .i64 (.p 0) (.f .shl .i64 (.p 1) (.w 6))) .nil)))
(.u (.cons (.p 0) .nil)))
anz)
(.br (.eq (.w 0) (.p 1))
(.br (.lt (.w 6) (.p 0))
.panic
(.u (.cons (.f .shl .i64 (.p 1) (.w 6)) .nil)))
(.br (.eq (.w 0) (.p 2))
(.br (.lt (.w 5) (.p 0))
.panic
anx)
(.br (.eq (.w 0) (.p 3))
anz
(.br (.eq (.w 0) (.p 5))
(.loop 0 9 [.int .i64,.int .i64] (.cons (.p 1) (.cons (.p 0) .nil))
(.call 0 [.int .i64] (.cons (.w 8) .nil) 11
(.br (.lt (.w 11) (.w 9))
(.u (.cons (.w 10) .nil))
(.br (.lt (.w 9) (.p 0))
.panic
(.next 0 (.cons (.f .add .i64 (.w 9) (.p 1)) (.cons (.f .or .i64 (.w 10) (.f .shl .i64 (.p 1) (.w 9))) .nil)))))))
(.br (.eq (.w 0) (.p 6))
(.u (.cons (.p 1) .nil))
(.u (.cons (.p 0) .nil))))))))
def ago:cb sV (Fq 0 [c_jargs]) [] [(18,[.tmpI 4 .i64,.tmpI 3 .i64]++E2 [(50,11)])] [] 200 Tryz.f53 c_jreads.a c_jreads.r (tp c_jreads.r) (v_Ins []) pD:=E1 (by kernel_rfl)
def ak1:c_jreads.Ok ZE:=
 GE pD (v_Ins []) eV (Am ahL AI) Tryz.func53 E0 ago<|iR fun x hx hp U g=>by
 simp only[c_jreads,pL,eu,b2i_one,ay,af]at hp;have Aq:=g;simp only[eu,AA,Nat.reduceAdd]at g;simp only[pD,anz,anx,c_jargs,c_jreads,eu,Ai,Nat.reduceSub,Nat.reduceAdd,-eq_self,ay,af,g];constructor<;>intro c0;constructor<;>intro c1;constructor<;>intro c2;constructor<;>intro c3
 .exact XD
 .exact XG
 .exact XG
 constructor<;>intro c4
 .exact XD
 constructor<;>intro c5;constructor<;>intro c6
 .exact XD
 .exact XG
 .exact XG
 constructor<;>intro c7;constructor<;>intro c8
 .exact XD
 .exact XG
 constructor<;>intro c9;constructor<;>intro BF
 .exact XD
 constructor<;>intro CD
 .exact XD
 .exact XG
 constructor<;>intro B9;constructor<;>intro Cq
 .exact XD
 constructor<;>intro CF;constructor<;>intro C3
 .exact XD
 .exact XG
 .exact XG
 constructor<;>intro Dk;have hA:=fI x.imm;refine⟨fun ds=>∃k:Nat,ds=[.z (k:Int),.z ((2 ^ k-2:Nat):Int)]/\1<=k/\(k:Int)<=fJ x.imm+1,fun ds=>7-(dI ds 0).toNat,⟨1,rfl,by omega,by omega⟩,?_⟩;intro U1 AY _ Ba;obtain⟨k,Bq,h1,h2⟩:=Ba;simp only[Be,L4,and_true]at Bq;obtain⟨Eu,D9⟩:=Bq;have Su:U1.i 8=x.imm:=(AY 8 ST).1.symm.trans (by simp only[g]);simp only[Su,Eu,D9,-eq_self];refine ag9 ?_;constructor<;>intro Df
 .have q:=Ah Df;have hk:k=1\/k=2\/k=3\/k=4\/k=5\/k=6:=Fn;have D8:fJ x.imm=(k:Int)-1:=Fn;have h5:=Bt Dk;unfold bc;rw[D8];simp only[h5];rcases hk with rfl|rfl|rfl|rfl|rfl|rfl<;>rfl
 constructor<;>intro Dg
 .exact absurd (Ah Dg) Fn
 .have q:=Ab Df;have hk:k=1\/k=2\/k=3\/k=4\/k=5:=Fn;rcases hk with rfl|rfl|rfl|rfl|rfl
  .exact⟨⟨2,rfl,by omega,by omega⟩,by decide⟩
  .exact⟨⟨3,rfl,by omega,by omega⟩,by decide⟩
  .exact⟨⟨4,rfl,by omega,by omega⟩,by decide⟩
  .exact⟨⟨5,rfl,by omega,by omega⟩,by decide⟩
  .exact⟨⟨6,rfl,by omega,by omega⟩,by decide⟩
 constructor<;>intro DA
 .exact XG
 .exact XG
def yw:List Dt->Prop
 |[.z x0,.z x1,.z x2,.z x3,.z x4,.z x5,.z x6,.z x7,.z x8,.z x9,.z JB,.z Lg,.z Md,.z N7,.z Pp,.z Ny,.z NM,.z Om,.z Ng,.z Tb]=>let f (m:JMd) (x:Ins):Prop:=x.br=ZB->0<=x.s/\x.s<=10;f ⟨x0,x1,x2,x3,x4,x5,x6,x7,x8,x9,JB⟩ ⟨Lg,Md,N7,Pp,(Ny==1),NM,Om,Ng,Tb⟩
 |_=>False
def c_jsec:Cd:=⟨55,[.ptr kJMd,.agg kIns],[.one (.int .u64)],rd_JMd fun m=>rd_Ins fun x _=>[.z (EB m x)],yw⟩
def agc:Tr:=
(.br (.s 15)
(.br (.eq (.w 17) (.p 0))
(.u (.cons (.w 0) .nil))
(.br (.eq (.w 17) (.p 1))
(.u (.cons (.w 1) .nil))
(.br (.eq (.w 17) (.p 2))
(.u (.cons (.w 2) .nil))
(.br (.eq (.w 17) (.p 3))
(.u (.cons (.w 3) .nil))
(.br (.eq (.w 17) (.p 4))
(.u (.cons (.w 4) .nil))
(.br (.eq (.w 17) (.p 5))
(.u (.cons (.w 5) .nil))
(.br (.eq (.w 17) (.p 6))
(.u (.cons (.w 6) .nil))
(.br (.eq (.w 17) (.p 7))
(.u (.cons (.w 7) .nil))
(.br (.eq (.w 17) (.p 8))
(.u (.cons (.w 8) .nil))
(.br (.eq (.w 17) (.p 9))
(.u (.cons (.w 9) .nil))
(.br (.eq (.w 17) (.p 10))
(.u (.cons (.w 10) .nil))
.panic)))))))))))
(.u (.cons (.F .u64 (.w 19)) .nil)))
def atc:c_jsec.Ok ZE:=
 AS agc (v_JMd (v_Ins [])) eV AI Tryz.func55<|aqR fun m hm=>iR fun x hx hp U g=>by
 simp only[c_jsec,yw,RL,eu,b2i_one,ay,af]at hp;simp only[RL,eu,AA,Nat.reduceAdd]at g;simp only[agc,c_jsec,RL,eu,Ai,Nat.reduceSub,Nat.reduceAdd,-eq_self,ay,af,g];constructor<;>intro c0;constructor<;>intro c1
 ·(unfold EB;rw[c0,Bt c1];rfl)
 constructor<;>intro c2
 ·(unfold EB;rw[c0,Bt c2];rfl)
 constructor<;>intro c3
 ·(unfold EB;rw[c0,Bt c3];rfl)
 constructor<;>intro c4
 ·(unfold EB;rw[c0,Bt c4];rfl)
 constructor<;>intro c5
 ·(unfold EB;rw[c0,Bt c5];rfl)
 constructor<;>intro c6
 ·(unfold EB;rw[c0,Bt c6];rfl)
 constructor<;>intro c7
 ·(unfold EB;rw[c0,Bt c7];rfl)
 constructor<;>intro c8
 ·(unfold EB;rw[c0,Bt c8];rfl)
 constructor<;>intro c9
 ·(unfold EB;rw[c0,Bt c9];rfl)
 constructor<;>intro BF
 ·(unfold EB;rw[c0,Bt BF];rfl)
 constructor<;>intro CD
 ·(unfold EB;rw[c0,Bt CD];rfl)
 ·(have q:=hp c0;have n0:=Cc c1;have n1:=Cc c2;have n2:=Cc c3;have n3:=Cc c4;have n4:=Cc c5;have n5:=Cc c6;have n6:=Cc c7;have n7:=Cc c8;have n8:=Cc c9;have n9:=Cc BF;have n10:=Cc CD;omega)
 ·(unfold EB;rw[c0];rfl)
def kB:List Dt->Prop
 |[.l x0]=>let f (b:LL):Prop:=b.length<=1048576;f x0
 |_=>False
def c_jsame:Cd:=⟨62,[.one (.sl [ZA .u8] 5)],[.one (.sl [ZA .u8] 5)],rdL fun b _=>[.l b],kB⟩
def aaV:Tr:=
(.br (.lt (.len (.g 0)) (.p 1073741824))
(.u (.N (.g 0) .nil))
.panic)
def ahJ:c_jsame.Ok ZE:=
 AS (hl:=.inr (.inl ⟨(fun xs (h:kB xs) L hL=>by unfold kB at h;split at h<;>first|exact h.elim|(simp at hL;rcases hL with rfl;exact cX h ST)),rfl⟩)) aaV [.list [ZA .u8]] eV AI Tryz.func62<|fun b hb hp U g=>by
 simp only[c_jsame,kB,b2i_one,ay,af]at hp;simp only[AA,Nat.reduceAdd]at g;simp only[aaV,c_jsame,Ai,Nat.reduceSub,Nat.reduceAdd,-eq_self,ay,af,g];constructor<;>intro c0
 .rfl
 ·(have q:=Ab c0;omega)
def jL:List Dt->Prop
 |[.l x0,.l x1,.l x2,.l x3]=>let f (m:JMem):Prop:=m.l0=[]/\m.l1.length<=256/\m.l2.length=64/\m.l3=[];f ⟨x0,x1,x2,x3⟩
 |_=>False
def c_jframe:Cd:=⟨59,[.ptr kJMem],[.agg kF64],rd_JMem fun m _=>d_F64 (f64 m.l2) [],jL⟩
def pF:Tr:=
(.br (.lt (.p 0) (.len (.g 2)))
(.br (.lt (.p 1) (.len (.g 2)))
(.br (.lt (.p 2) (.len (.g 2)))
(.br (.lt (.p 3) (.len (.g 2)))
(.br (.lt (.p 4) (.len (.g 2)))
(.br (.lt (.p 5) (.len (.g 2)))
(.br (.lt (.p 6) (.len (.g 2)))
(.br (.lt (.p 7) (.len (.g 2)))
(.br (.lt (.p 8) (.len (.g 2)))
(.br (.lt (.p 9) (.len (.g 2)))
(.br (.lt (.p 10) (.len (.g 2)))
(.br (.lt (.p 11) (.len (.g 2)))
(.br (.lt (.p 12) (.len (.g 2)))
(.br (.lt (.p 13) (.len (.g 2)))
(.br (.lt (.p 14) (.len (.g 2)))
(.br (.lt (.p 15) (.len (.g 2)))
(.br (.lt (.p 16) (.len (.g 2)))
(.br (.lt (.p 17) (.len (.g 2)))
(.br (.lt (.p 18) (.len (.g 2)))
(.br (.lt (.p 19) (.len (.g 2)))
(.br (.lt (.p 20) (.len (.g 2)))
(.br (.lt (.p 21) (.len (.g 2)))
(.br (.lt (.p 22) (.len (.g 2)))
(.br (.lt (.p 23) (.len (.g 2)))
(.br (.lt (.p 24) (.len (.g 2)))
(.br (.lt (.p 25) (.len (.g 2)))
(.br (.lt (.p 26) (.len (.g 2)))
(.br (.lt (.p 27) (.len (.g 2)))
(.br (.lt (.p 28) (.len (.g 2)))
(.br (.lt (.p 29) (.len (.g 2)))
(.br (.lt (.p 30) (.len (.g 2)))
(.br (.lt (.p 31) (.len (.g 2)))
(.br (.lt (.p 32) (.len (.g 2)))
(.br (.lt (.p 33) (.len (.g 2)))
(.br (.lt (.p 34) (.len (.g 2)))
(.br (.lt (.p 35) (.len (.g 2)))
(.br (.lt (.p 36) (.len (.g 2)))
(.br (.lt (.p 37) (.len (.g 2)))
(.br (.lt (.p 38) (.len (.g 2)))
(.br (.lt (.p 39) (.len (.g 2)))
(.br (.lt (.p 40) (.len (.g 2)))
(.br (.lt (.p 41) (.len (.g 2)))
(.br (.lt (.p 42) (.len (.g 2)))
(.br (.lt (.p 43) (.len (.g 2)))
(.br (.lt (.p 44) (.len (.g 2)))
(.br (.lt (.p 45) (.len (.g 2)))
(.br (.lt (.p 46) (.len (.g 2)))
(.br (.lt (.p 47) (.len (.g 2)))
(.br (.lt (.p 48) (.len (.g 2)))
(.br (.lt (.p 49) (.len (.g 2)))
(.br (.lt (.p 50) (.len (.g 2)))
(.br (.lt (.p 51) (.len (.g 2)))
(.br (.lt (.p 52) (.len (.g 2)))
(.br (.lt (.p 53) (.len (.g 2)))
(.br (.lt (.p 54) (.len (.g 2)))
(.br (.lt (.p 55) (.len (.g 2)))
(.br (.lt (.p 56) (.len (.g 2)))
(.br (.lt (.p 57) (.len (.g 2)))
(.br (.lt (.p 58) (.len (.g 2)))
(.br (.lt (.p 59) (.len (.g 2)))
(.br (.lt (.p 60) (.len (.g 2)))
(.br (.lt (.p 61) (.len (.g 2)))
(.br (.lt (.p 62) (.len (.g 2)))
(.br (.lt (.p 63) (.len (.g 2)))
(.u (.cons (.get (.g 2) (.p 0) 0) (.cons (.get (.g 2) (.p 1) 0) (.cons (.get (.g 2) (.p 2) 0) (.cons (.get (.g 2) (.p 3) 0) (.cons (.get (.g 2) (.p 4) 0) (.cons (.get (.g 2) (.p 5) 0) (.cons (.get (.g 2) (.p 6) 0) (.cons (.get (.g 2) (.p 7) 0) (.cons (.get (.g 2) (.p 8) 0) (.cons (.get (.g 2) (.p 9) 0) (.cons (.get (.g 2) (.p 10) 0) (.cons (.get (.g 2) (.p 11) 0) (.cons (.get (.g 2) (.p 12) 0) (.cons (.get (.g 2) (.p 13) 0) (.cons (.get (.g 2) (.p 14) 0) (.cons (.get (.g 2) (.p 15) 0) (.cons (.get (.g 2) (.p 16) 0) (.cons (.get (.g 2) (.p 17) 0) (.cons (.get (.g 2) (.p 18) 0) (.cons (.get (.g 2) (.p 19) 0) (.cons (.get (.g 2) (.p 20) 0) (.cons (.get (.g 2) (.p 21) 0) (.cons (.get (.g 2) (.p 22) 0) (.cons (.get (.g 2) (.p 23) 0) (.cons (.get (.g 2) (.p 24) 0) (.cons (.get (.g 2) (.p 25) 0) (.cons (.get (.g 2) (.p 26) 0) (.cons (.get (.g 2) (.p 27) 0) (.cons (.get (.g 2) (.p 28) 0) (.cons (.get (.g 2) (.p 29) 0) (.cons (.get (.g 2) (.p 30) 0) (.cons (.get (.g 2) (.p 31) 0) (.cons (.get (.g 2) (.p 32) 0) (.cons (.get (.g 2) (.p 33) 0) (.cons (.get (.g 2) (.p 34) 0) (.cons (.get (.g 2) (.p 35) 0) (.cons (.get (.g 2) (.p 36) 0) (.cons (.get (.g 2) (.p 37) 0) (.cons (.get (.g 2) (.p 38) 0) (.cons (.get (.g 2) (.p 39) 0) (.cons (.get (.g 2) (.p 40) 0) (.cons (.get (.g 2) (.p 41) 0) (.cons (.get (.g 2) (.p 42) 0) (.cons (.get (.g 2) (.p 43) 0) (.cons (.get (.g 2) (.p 44) 0) (.cons (.get (.g 2) (.p 45) 0) (.cons (.get (.g 2) (.p 46) 0) (.cons (.get (.g 2) (.p 47) 0) (.cons (.get (.g 2) (.p 48) 0) (.cons (.get (.g 2) (.p 49) 0) (.cons (.get (.g 2) (.p 50) 0) (.cons (.get (.g 2) (.p 51) 0) (.cons (.get (.g 2) (.p 52) 0) (.cons (.get (.g 2) (.p 53) 0) (.cons (.get (.g 2) (.p 54) 0) (.cons (.get (.g 2) (.p 55) 0) (.cons (.get (.g 2) (.p 56) 0) (.cons (.get (.g 2) (.p 57) 0) (.cons (.get (.g 2) (.p 58) 0) (.cons (.get (.g 2) (.p 59) 0) (.cons (.get (.g 2) (.p 60) 0) (.cons (.get (.g 2) (.p 61) 0) (.cons (.get (.g 2) (.p 62) 0) (.cons (.get (.g 2) (.p 63) 0) .nil)))))))))))))))))))))))))))))))))))))))))))))))))))))))))))))))))
.panic)
.panic)
.panic)
.panic)
.panic)
.panic)
.panic)
.panic)
.panic)
.panic)
.panic)
.panic)
.panic)
.panic)
.panic)
.panic)
.panic)
.panic)
.panic)
.panic)
.panic)
.panic)
.panic)
.panic)
.panic)
.panic)
.panic)
.panic)
.panic)
.panic)
.panic)
.panic)
.panic)
.panic)
.panic)
.panic)
.panic)
.panic)
.panic)
.panic)
.panic)
.panic)
.panic)
.panic)
.panic)
.panic)
.panic)
.panic)
.panic)
.panic)
.panic)
.panic)
.panic)
.panic)
.panic)
.panic)
.panic)
.panic)
.panic)
.panic)
.panic)
.panic)
.panic)
.panic)
def agq:cb sV (Fq 0 []) [] [] [] 200 Tryz.f59 c_jframe.a c_jframe.r (tp c_jframe.r) (v_JMem []) pF:=E1 (by kernel_rfl)
def ak3:c_jframe.Ok ZE:=
 GE (hl:=.inr (.inl ⟨(fun xs (h:jL xs) L hL=>by unfold jL at h;split at h<;>first|exact h.elim|(simp at hL;rcases hL with rfl|rfl|rfl|rfl;exact cX (Nat.le_of_eq (congrArg List.length h.1)) ST;exact cX h.2.1 ST;exact cX (Nat.le_of_eq h.2.2.1) ST;exact cX (Nat.le_of_eq (congrArg List.length h.2.2.2)) ST)),rfl⟩)) pF (v_JMem []) eV AI Tryz.func59 E0 agq<|ur fun m hm hp U g=>by
 simp only[c_jframe,jL,jT,S9,b2i_one,ay,af]at hp;simp only[jT,S9,AA,Nat.reduceAdd]at g;simp only[pF,c_jframe,jT,S9,Ai,Nat.reduceSub,Nat.reduceAdd,-eq_self,ay,af,g];constructor<;>intro c0;constructor<;>intro c1;constructor<;>intro c2;constructor<;>intro c3;constructor<;>intro c4;constructor<;>intro c5;constructor<;>intro c6;constructor<;>intro c7;constructor<;>intro c8;constructor<;>intro c9;constructor<;>intro BF;constructor<;>intro CD;constructor<;>intro B9;constructor<;>intro Cq;constructor<;>intro CF;constructor<;>intro C3;constructor<;>intro Dk;constructor<;>intro Df;constructor<;>intro Dg;constructor<;>intro DA;constructor<;>intro Dz;constructor<;>intro EN;constructor<;>intro FZ;constructor<;>intro Hk;constructor<;>intro H9;constructor<;>intro Gq;constructor<;>intro JX;constructor<;>intro Ix;constructor<;>intro Je;constructor<;>intro Kd;constructor<;>intro Ku;constructor<;>intro Kq;constructor<;>intro JW;constructor<;>intro La;constructor<;>intro KG;constructor<;>intro LD;constructor<;>intro LK;constructor<;>intro Kk;constructor<;>intro LG;constructor<;>intro LA;constructor<;>intro KY;constructor<;>intro KZ;constructor<;>intro Kj;constructor<;>intro JN;constructor<;>intro LF;constructor<;>intro Kf;constructor<;>intro H7;constructor<;>intro Ki;constructor<;>intro Kt;constructor<;>intro Kh;constructor<;>intro Kv;constructor<;>intro Ka;constructor<;>intro Jy;constructor<;>intro c53;constructor<;>intro c54;constructor<;>intro c55;constructor<;>intro c56;constructor<;>intro c57;constructor<;>intro c58;constructor<;>intro c59;constructor<;>intro c60;constructor<;>intro c61;constructor<;>intro c62;constructor<;>intro c63
 .rfl
 .exact absurd (Ab c63) Xn
 .exact absurd (Ab c62) Xn
 .exact absurd (Ab c61) Xn
 .exact absurd (Ab c60) Xn
 .exact absurd (Ab c59) Xn
 .exact absurd (Ab c58) Xn
 .exact absurd (Ab c57) Xn
 .exact absurd (Ab c56) Xn
 .exact absurd (Ab c55) Xn
 .exact absurd (Ab c54) Xn
 .exact absurd (Ab c53) Xn
 .exact absurd (Ab Jy) Xn
 .exact absurd (Ab Ka) Xn
 .exact absurd (Ab Kv) Xn
 .exact absurd (Ab Kh) Xn
 .exact absurd (Ab Kt) Xn
 .exact absurd (Ab Ki) Xn
 .exact absurd (Ab H7) Xn
 .exact absurd (Ab Kf) Xn
 .exact absurd (Ab LF) Xn
 .exact absurd (Ab JN) Xn
 .exact absurd (Ab Kj) Xn
 .exact absurd (Ab KZ) Xn
 .exact absurd (Ab KY) Xn
 .exact absurd (Ab LA) Xn
 .exact absurd (Ab LG) Xn
 .exact absurd (Ab Kk) Xn
 .exact absurd (Ab LK) Xn
 .exact absurd (Ab LD) Xn
 .exact absurd (Ab KG) Xn
 .exact absurd (Ab La) Xn
 .exact absurd (Ab JW) Xn
 .exact absurd (Ab Kq) Xn
 .exact absurd (Ab Ku) Xn
 .exact absurd (Ab Kd) Xn
 .exact absurd (Ab Je) Xn
 .exact absurd (Ab Ix) Xn
 .exact absurd (Ab JX) Xn
 .exact absurd (Ab Gq) Xn
 .exact absurd (Ab H9) Xn
 .exact absurd (Ab Hk) Xn
 .exact absurd (Ab FZ) Xn
 .exact absurd (Ab EN) Xn
 .exact absurd (Ab Dz) Xn
 .exact absurd (Ab DA) Xn
 .exact absurd (Ab Dg) Xn
 .exact absurd (Ab Df) Xn
 .exact absurd (Ab Dk) Xn
 .exact absurd (Ab C3) Xn
 .exact absurd (Ab CF) Xn
 .exact absurd (Ab Cq) Xn
 .exact absurd (Ab B9) Xn
 .exact absurd (Ab CD) Xn
 .exact absurd (Ab BF) Xn
 .exact absurd (Ab c9) Xn
 .exact absurd (Ab c8) Xn
 .exact absurd (Ab c7) Xn
 .exact absurd (Ab c6) Xn
 .exact absurd (Ab c5) Xn
 .exact absurd (Ab c4) Xn
 .exact absurd (Ab c3) Xn
 .exact absurd (Ab c2) Xn
 .exact absurd (Ab c1) Xn
 .exact absurd (Ab c0) Xn
def pM:List Dt->Prop
 |[.l x0,.l x1,.l x2,.l x3]=>let f (m:JMem):Prop:=m.l0=[]/\m.l1.length<=256/\m.l2.length=64/\m.l3=[];f ⟨x0,x1,x2,x3⟩
 |_=>False
def c_jctx:Cd:=⟨21,[.ptr kJMem],[.one (.sl [ZA .u8] 5)],rd_JMem fun m _=>[.l m.l1],pM⟩
def agf:Tr:=
(.call 0 [.sl [ZA .u8] 5] (.N (.g 1) .nil) 4
(.u (.N (.g 4) .nil)))
def atg:c_jctx.Ok ZE:=
 AS (hl:=.inr (.inl ⟨(fun xs (h:pM xs) L hL=>by unfold pM at h;split at h<;>first|exact h.elim|(simp at hL;rcases hL with rfl|rfl|rfl|rfl;exact cX (Nat.le_of_eq (congrArg List.length h.1)) ST;exact cX h.2.1 ST;exact cX (Nat.le_of_eq h.2.2.1) ST;exact cX (Nat.le_of_eq (congrArg List.length h.2.2.2)) ST)),rfl⟩)) agf (v_JMem []) eV (Am ahJ AI) Tryz.func21<|ur fun m hm hp U g=>by
 simp only[c_jctx,pM,jT,b2i_one,ay,af]at hp;simp only[jT,AA,Nat.reduceAdd]at g;simp only[agf,c_jsame,c_jctx,kB,jT,Ai,Nat.reduceSub,Nat.reduceAdd,-eq_self,ay,af,g];refine⟨?_,?_⟩
 .exact cX hp.2.1 ST
 refine ag9 ?_
 .rfl
def db(k:q2)(h:p->q=q2:=by intro e;(try simp only[e,ay,af,-eq_self]);rfl):p->q:=fun e=>(h e).symm▸k
def aeo:List (Nat×TI):=[(2,CB),
 (3,CX),
 (4,Ez),
 (5,KQ),
 (22,vd),
 (24,vb),
 (25,aoJ),
 (26,aoI),
 (33,Qx),
 (36,Wi),
 (37,arJ),
 (38,fT),
 (39,eX),
 (40,WH),
 (42,arI),
 (60,RR),
 (61,Q5),
 (63,Sn),
 (66,qP),
 (87,arH),
 (89,arG),
 (138,al4),
 (178,aeE)]
def aed:∀t i,(t,i)∈aeo->TIok ZE t i:=bi (DU (z:=lQ) ⟨lj,ig⟩ B1) B1 (by kernel_rfl)
def jJ:List Dt->Prop
 |[.z x0,.l x1,.l x2,.l x3,.z x4]=>let f (p:Prog) (cx:LL) (an:LL) (fu:Int):Prop:=(p.l.length<=maxLen/\cx.length<=maxLen)/\an.length<=maxLen;f ⟨x0,x1⟩ x2 x3 x4
 |_=>False
def c_jsnaps:Cd:=⟨7,[.agg kProg,.one (.sl [ZA .u8] 5),.one (.sl [ZA .u64] 39),.one (.int .i64)],[.one (.sl [ZA .i64] 3),.one (.sl L5 63),.agg kOut,.one (.int .i64)],rd_Prog fun p=>rdL fun cx=>rdL fun an=>rdZ fun fu _=>.l ((cQ p cx an fu).1)::.l ((cQ p cx an fu).2)::d_Out ((Cm p cx an fu).1) [.z ((Cm p cx an fu).2)],jJ⟩
def ano:E:=(.cons (.F .i64 (.get (.g 1) (.w 86) 3)) .nil)
def P3:E:=(.N (.g 88) (.cons (.w 93) (.cons (.p 0) .nil)))
def sE:E:=(.N (.g 7) (.N (.g 89) (.N (.g 90) (.N .ln .nil))))
def anp:E:=(.N (.g 95) P3)
def anq:E:=(.cons (.nth (.get (.g 1) (.w 86) 5) (.vs 10 11 .nil)) (.cons (.w 95) .nil))
def anr:E:=(.cons (.p 0) anp)
def Tt:E:=(.N (.lq (.g 91) (.cons (.w 86) .nil)) (.N (.lq (.g 92) (.vs 10 76 .nil)) .nil))
def SM:E:=(.f .add .u64 (.nth (.get (.g 1) (.w 86) 5) (.vs 10 11 .nil)) (.F .u64 (.get (.g 1) (.w 86) 7)))
def VH:E:=(.cons (.p 0) (.cons (.nth (.get (.g 1) (.w 86) 6) (.vs 10 11 .nil)) (.N (.g 89) (.N (.g 90) .nil))))
def ant:E:=(.N (.g 89) (.N (.g 90) Tt))
def V5:Tr:=(.u (.N .ln (.N .ln (.cons (.p 0) (.cons (.p 0) (.N .ln (.N .ln (.cons (.p 0) (.cons (.p 2) .nil)))))))))
def TB:E:=(.N (.g 87) (.N (.g 88) ant))
def anu:E:=(.cons (.f .add .i64 (.w 86) (.p 1)) TB)
def anv:Tr:=(.next 0 (.cons (.w 93) (.vs 10 76 anu)))
def anw:E:=(.cons (.f .or .i64 (.w 21) (.f .shl .i64 (.p 1) (.get (.g 1) (.w 86) 5))) (.vs 22 64 anu))
def pC:Tr:=
(.call 0 [.int .i64,.int .i64] (.cons (.w 0) (.N (.g 1) .nil)) 5
(.br (.eq (.w 6) (.p 0))
(.br (.eq (.len (.g 2)) (.w 0))
(.br (.lt (.w 4) (.p 0))
V5
(.br (.lt (.p 10000) (.w 4))
V5
(.br (.lt (.p 256) (.len (.g 2)))
(.stuck 113)
(.call 10 [.sl [ZA .u8] 5] (.N .ln .nil) 7
(.call 10 [.sl [ZA .u8] 5] (.N (.g 2) .nil) 8
(.loop 0 9 [.int .i64,.int .u64,.int .u64,.int .u64,.int .u64,.int .u64,.int .u64,.int .u64,.int .u64,.int .u64,.int .u64,.int .u64,.int .i64,.int .u8,.int .u8,.int .u8,.int .u8,.int .u8,.int .u8,.int .u8,.int .u8,.int .u8,.int .u8,.int .u8,.int .u8,.int .u8,.int .u8,.int .u8,.int .u8,.int .u8,.int .u8,.int .u8,.int .u8,.int .u8,.int .u8,.int .u8,.int .u8,.int .u8,.int .u8,.int .u8,.int .u8,.int .u8,.int .u8,.int .u8,.int .u8,.int .u8,.int .u8,.int .u8,.int .u8,.int .u8,.int .u8,.int .u8,.int .u8,.int .u8,.int .u8,.int .u8,.int .u8,.int .u8,.int .u8,.int .u8,.int .u8,.int .u8,.int .u8,.int .u8,.int .u8,.int .u8,.int .u8,.int .u8,.int .u8,.int .u8,.int .u8,.int .u8,.int .u8,.int .u8,.int .u8,.int .u8,.int .u8,.int .i64,.list [ZA .u64],.list (kN 8 11111212),.list [ZA .u8],.list [ZA .u8],.list [ZA .i64],.list L5] (.cons (.w 4) (.zs [0,2097152,0,0,0,0,0,0,0,0,3145792,1026,0,0,0,0,0,0,0,0,0,0,0,0,0,0,0,0,0,0,0,0,0,0,0,0,0,0,0,0,0,0,0,0,0,0,0,0,0,0,0,0,0,0,0,0,0,0,0,0,0,0,0,0,0,0,0,0,0,0,0,0,0,0,0,0,0] (.N (.g 3) (.N .ln (.N (.g 8) (.N (.lrep (.p 64) (.cons (.p 0) .nil)) (.N .ln (.N .ln .nil))))))))
(.br (.lt (.p 0) (.w 9))
(.br (.lt (.len (.g 91)) (.p 1073741824))
(.br (.lt (.len (.g 92)) (.p 1073741824))
(.cut 1 93 [.int .i64]
(.next 1 (.cons (.f .sub .i64 (.w 9) (.p 1)) .nil))
(.br (.lt (.w 86) (.p 0))
.panic
(.br (.lt (.w 86) (.len (.g 1)))
(.call 1 [.int .i64] (.ins (.g 1) (.w 86) .nil) 94
(.br (.eq (.f .andNot .i64 (.w 94) (.w 21)) (.p 0))
(.br (.eq (.get (.g 1) (.w 86) 0) (.p 0))
(.br (.lt (.get (.g 1) (.w 86) 5) (.p 0))
.panic
(.br (.lt (.get (.g 1) (.w 86) 5) (.p 11))
(.call 2 [.int .u64] (.vs 10 11 (.ins (.g 1) (.w 86) .nil)) 95
(.call 3 [.int .u64,.int .i64] (.cons (.get (.g 1) (.w 86) 1) (.cons (.get (.g 1) (.w 86) 2) anq)) 96
(.next 0 (.cons (.w 93) (.cons (.ite (.eq (.get (.g 1) (.w 86) 5) (.p 0)) (.w 96) (.w 10)) (.cons (.ite (.eq (.get (.g 1) (.w 86) 5) (.p 1)) (.w 96) (.w 11)) (.cons (.ite (.eq (.get (.g 1) (.w 86) 5) (.p 2)) (.w 96) (.w 12)) (.cons (.ite (.eq (.get (.g 1) (.w 86) 5) (.p 3)) (.w 96) (.w 13)) (.cons (.ite (.eq (.get (.g 1) (.w 86) 5) (.p 4)) (.w 96) (.w 14)) (.cons (.ite (.eq (.get (.g 1) (.w 86) 5) (.p 5)) (.w 96) (.w 15)) (.cons (.ite (.eq (.get (.g 1) (.w 86) 5) (.p 6)) (.w 96) (.w 16)) (.cons (.ite (.eq (.get (.g 1) (.w 86) 5) (.p 7)) (.w 96) (.w 17)) (.cons (.ite (.eq (.get (.g 1) (.w 86) 5) (.p 8)) (.w 96) (.w 18)) (.cons (.ite (.eq (.get (.g 1) (.w 86) 5) (.p 9)) (.w 96) (.w 19)) (.cons (.ite (.eq (.get (.g 1) (.w 86) 5) (.p 10)) (.w 96) (.w 20)) anw)))))))))))))))
.panic))
(.br (.eq (.get (.g 1) (.w 86) 0) (.p 1))
(.br (.lt (.get (.g 1) (.w 86) 6) (.p 0))
.panic
(.br (.lt (.get (.g 1) (.w 86) 6) (.p 11))
(.call 7 [.int .u64,.int .i64] (.N (.g 7) (.N (.g 89) (.N (.g 90) (.N .ln (.cons (.f .add .u64 (.nth (.get (.g 1) (.w 86) 6) (.vs 10 11 .nil)) (.F .u64 (.get (.g 1) (.w 86) 7))) ano))))) 95
(.br (.eq (.w 96) (.p 0))
(.br (.lt (.get (.g 1) (.w 86) 5) (.p 0))
.panic
(.br (.lt (.get (.g 1) (.w 86) 5) (.p 11))
(.next 0 (.cons (.w 93) (.cons (.ite (.eq (.get (.g 1) (.w 86) 5) (.p 0)) (.w 95) (.w 10)) (.cons (.ite (.eq (.get (.g 1) (.w 86) 5) (.p 1)) (.w 95) (.w 11)) (.cons (.ite (.eq (.get (.g 1) (.w 86) 5) (.p 2)) (.w 95) (.w 12)) (.cons (.ite (.eq (.get (.g 1) (.w 86) 5) (.p 3)) (.w 95) (.w 13)) (.cons (.ite (.eq (.get (.g 1) (.w 86) 5) (.p 4)) (.w 95) (.w 14)) (.cons (.ite (.eq (.get (.g 1) (.w 86) 5) (.p 5)) (.w 95) (.w 15)) (.cons (.ite (.eq (.get (.g 1) (.w 86) 5) (.p 6)) (.w 95) (.w 16)) (.cons (.ite (.eq (.get (.g 1) (.w 86) 5) (.p 7)) (.w 95) (.w 17)) (.cons (.ite (.eq (.get (.g 1) (.w 86) 5) (.p 8)) (.w 95) (.w 18)) (.cons (.ite (.eq (.get (.g 1) (.w 86) 5) (.p 9)) (.w 95) (.w 19)) (.cons (.ite (.eq (.get (.g 1) (.w 86) 5) (.p 10)) (.w 95) (.w 20)) anw)))))))))))))
.panic))
(.call 12 [.sl [ZA .u8] 5] sE 97
(.u (.N (.lq (.g 91) (.cons (.w 86) .nil)) (.N (.lq (.g 92) (.vs 10 76 .nil)) (.cons (.p 3) (.cons (.p 0) (.N (.g 97) P3)))))))))
.panic))
(.br (.eq (.get (.g 1) (.w 86) 0) (.p 2))
(.br (.lt (.get (.g 1) (.w 86) 5) (.p 0))
.panic
(.br (.lt (.get (.g 1) (.w 86) 5) (.p 11))
(.br (.lt (.get (.g 1) (.w 86) 6) (.p 0))
.panic
(.br (.lt (.get (.g 1) (.w 86) 6) (.p 11))
(.call 8 [.bool] ano 95
(.br (.s 95)
(.call 9 [.int .i64,.bool] (.cons SM (.cons (.F .i64 (.get (.g 1) (.w 86) 3)) (.cons (.p 1048576) (.N (.g 7) .nil)))) 96
(.br (.s 97)
(.call 12 [.sl [ZA .u8] 5] sE 98
(.u (.N (.lq (.g 91) (.cons (.w 86) .nil)) (.N (.lq (.g 92) (.vs 10 76 .nil)) (.cons (.p 3) (.cons (.p 0) (.N (.g 98) P3)))))))
(.call 9 [.int .i64,.bool] (.cons SM (.cons (.F .i64 (.get (.g 1) (.w 86) 3)) (.cons (.p 2097152) (.N (.g 89) .nil)))) 98
(.br (.s 99)
(.loop 2 100 [.int .i64,.int .u64,.list [ZA .u8],.list [ZA .u8]] VH
(.br (.lt (.w 100) (.F .i64 (.get (.g 1) (.w 86) 3)))
(.br (.lt (.f .add .i64 (.w 98) (.w 100)) (.p 0))
.panic
(.br (.lt (.f .add .i64 (.w 98) (.w 100)) (.len (.g 102)))
(.next 2 (.cons (.f .add .i64 (.w 100) (.p 1)) (.cons (.f .shr .u64 (.w 101) (.p 8)) (.N (.lset (.g 102) (.f .add .i64 (.w 98) (.w 100)) 0 (.F .u8 (.f .and .u64 (.w 101) (.p 255)))) (.N (.g 103) .nil)))))
.panic))
(.call 11 (kF64) (.N (.g 7) (.N (.g 102) (.N (.g 103) (.N .ln .nil)))) 104
(.next 0 (.cons (.w 93) (.vs 10 12 (.vs 104 64 (.cons (.f .add .i64 (.w 86) (.p 1)) (.N (.g 87) (.N (.g 88) (.N (.g 102) (.N (.g 103) Tt))))))))))))
(.call 9 [.int .i64,.bool] (.cons SM (.cons (.F .i64 (.get (.g 1) (.w 86) 3)) (.cons (.p 3145728) (.N (.g 90) .nil)))) 100
(.br (.s 101)
(.loop 2 102 [.int .i64,.int .u64,.list [ZA .u8],.list [ZA .u8]] VH
(.br (.lt (.w 102) (.F .i64 (.get (.g 1) (.w 86) 3)))
(.br (.lt (.f .add .i64 (.w 100) (.w 102)) (.p 0))
.panic
(.br (.lt (.f .add .i64 (.w 100) (.w 102)) (.len (.g 105)))
(.next 2 (.cons (.f .add .i64 (.w 102) (.p 1)) (.cons (.f .shr .u64 (.w 103) (.p 8)) (.N (.g 104) (.N (.lset (.g 105) (.f .add .i64 (.w 100) (.w 102)) 0 (.F .u8 (.f .and .u64 (.w 103) (.p 255)))) .nil)))))
.panic))
(.call 11 (kF64) (.N (.g 7) (.N (.g 104) (.N (.g 105) (.N .ln .nil)))) 106
(.next 0 (.cons (.w 93) (.vs 10 12 (.vs 106 64 (.cons (.f .add .i64 (.w 86) (.p 1)) (.N (.g 87) (.N (.g 88) (.N (.g 104) (.N (.g 105) Tt))))))))))))
(.call 9 [.int .i64,.bool] (.cons SM (.cons (.F .i64 (.get (.g 1) (.w 86) 3)) (.cons (.p 4194304) (.N .ln .nil)))) 102
(.br (.s 103)
(.loop 2 104 [.int .i64,.int .u64,.list [ZA .u8],.list [ZA .u8]] VH
(.br (.lt (.w 104) (.F .i64 (.get (.g 1) (.w 86) 3)))
.panic
(.call 11 (kF64) (.N (.g 7) (.N (.g 106) (.N (.g 107) (.N .ln .nil)))) 108
(.next 0 (.cons (.w 93) (.vs 10 12 (.vs 108 64 (.cons (.f .add .i64 (.w 86) (.p 1)) (.N (.g 87) (.N (.g 88) (.N (.g 106) (.N (.g 107) Tt))))))))))))
(.call 12 [.sl [ZA .u8] 5] sE 104
(.u (.N (.lq (.g 91) (.cons (.w 86) .nil)) (.N (.lq (.g 92) (.vs 10 76 .nil)) (.cons (.p 3) (.cons (.p 0) (.N (.g 104) P3)))))))))))))))
(.call 12 [.sl [ZA .u8] 5] sE 96
(.u (.N (.lq (.g 91) (.cons (.w 86) .nil)) (.N (.lq (.g 92) (.vs 10 76 .nil)) (.cons (.p 3) (.cons (.p 0) (.N (.g 96) P3)))))))))
.panic))
.panic))
(.br (.eq (.get (.g 1) (.w 86) 0) (.p 3))
(.br (.lt (.get (.g 1) (.w 86) 5) (.p 0))
.panic
(.br (.lt (.get (.g 1) (.w 86) 5) (.p 11))
(.call 2 [.int .u64] (.vs 10 11 (.ins (.g 1) (.w 86) .nil)) 95
(.call 4 [.bool,.int .i64] (.cons (.get (.g 1) (.w 86) 1) (.cons (.p 64) anq)) 96
(.br (.s 96)
(.call 5 [.int .i64,.bool] (.cons (.w 86) (.ins (.g 1) (.w 86) .nil)) 98
(.next 0 (.cons (.w 93) (.vs 10 76 (.cons (.w 98) TB)))))
anv)))
.panic))
(.br (.eq (.get (.g 1) (.w 86) 0) (.p 4))
(.call 5 [.int .i64,.bool] (.cons (.w 86) (.ins (.g 1) (.w 86) .nil)) 95
(.next 0 (.cons (.w 93) (.vs 10 76 (.cons (.w 95) TB)))))
(.br (.eq (.get (.g 1) (.w 86) 0) (.p 5))
(.br (.eq (.len (.g 87)) (.p 0))
(.call 12 [.sl [ZA .u8] 5] sE 95
(.u (.N (.lq (.g 91) (.cons (.w 86) .nil)) (.N (.lq (.g 92) (.vs 10 76 .nil)) (.cons (.p 2) anr)))))
(.br (.lt (.p 0) (.len (.g 87)))
(.br (.lt (.len (.g 87)) (.p 1))
.panic
(.loop 2 95 [.int .i64,.list [ZA .u64]] (.cons (.p 1) (.N .ln .nil))
(.call 6 [.int .i64] (.cons (.get (.g 1) (.w 86) 8) .nil) 97
(.br (.lt (.w 97) (.w 95))
(.br (.lt (.p 5) (.len (.g 96)))
(.stuck 220)
(.br (.lt (.len (.g 88)) (.p 1073741824))
(.next 0 (.cons (.w 93) (.cons (.get (.g 87) (.p 0) 0) (.zs [0,0,0,0,0] (.vs 16 5 (.cons (.f .andNot .i64 (.f .or .i64 (.f .andNot .i64 (.f .or .i64 (.f .andNot .i64 (.f .or .i64 (.f .andNot .i64 (.f .or .i64 (.f .andNot .i64 (.f .or .i64 (.f .or .i64 (.w 21) (.p 1)) (.p 2)) (.p 2)) (.p 4)) (.p 4)) (.p 8)) (.p 8)) (.p 16)) (.p 16)) (.p 32)) (.p 32)) (.vs 22 64 (.cons (.f .add .i64 (.w 86) (.p 1)) (.N (.ldrop (.g 87) (.p 1)) (.N (.lq (.g 88) (.cons (.get (.g 1) (.w 86) 8) (.cons (.get (.g 87) (.p 0) 0) (.cons (.len (.g 96)) (.cons (.get (.g 96) (.p 0) 0) (.cons (.get (.g 96) (.p 1) 0) (.cons (.get (.g 96) (.p 2) 0) (.cons (.get (.g 96) (.p 3) 0) (.cons (.get (.g 96) (.p 4) 0) .nil))))))))) ant))))))))))
.panic))
(.br (.lt (.w 95) (.p 0))
.panic
(.br (.lt (.w 95) (.p 11))
(.br (.lt (.len (.g 96)) (.p 1073741824))
(.next 2 (.cons (.f .add .i64 (.w 95) (.p 1)) (.N (.lq (.g 96) (.cons (.nth (.w 95) (.vs 10 11 .nil)) .nil)) .nil)))
.panic)
.panic))))))
.panic))
(.br (.eq (.get (.g 1) (.w 86) 0) (.p 6))
(.call 12 [.sl [ZA .u8] 5] sE 95
(.u (.N (.lq (.g 91) (.cons (.w 86) .nil)) (.N (.lq (.g 92) (.vs 10 76 .nil)) (.cons (.p 1) (.cons (.w 10) anp))))))
anv)))))))
(.call 12 [.sl [ZA .u8] 5] sE 95
(.u (.N (.lq (.g 91) (.cons (.w 86) .nil)) (.N (.lq (.g 92) (.vs 10 76 .nil)) (.cons (.p 3) anr)))))))
.panic)))
.panic)
.panic)
(.call 12 [.sl [ZA .u8] 5] sE 93
(.u (.N (.g 91) (.N (.g 92) (.cons (.p 0) (.cons (.p 0) (.N (.g 93) (.N (.g 88) (.cons (.w 9) (.cons (.p 0) .nil)))))))))))))))))
V5)
(.u (.N .ln (.N .ln (.cons (.p 0) (.cons (.p 0) (.N .ln (.N .ln (.cons (.p 0) (.cons (.w 6) .nil)))))))))))
def agn:cb aeo (Fq 0 [c_jcheck,c_jreads,c_jsec,c_rbits,c_rhol,c_jtgt,c_jargs,c_jmread,c_jsd,c_jwith,c_jsame,c_jframe,c_jctx]) [(20,Tryz.f20,[(999999,[]),(999998,[])],[]),(56,Tryz.f56,[(999999,[]),(999998,[])],[]),(61,Tryz.f61,[(6,[.tmpI 6 .i64,.cT 21 1 [ZA .u64] 39]++E2 [(30,18)]),(999999,[]),(999998,[])],[]),(19,Tryz.f19,[(999999,[]),(999998,[])],[]),(52,Tryz.f52,[(999999,[]),(999998,[])],[]),(58,Tryz.f58,[(9,[.tmpI 12 .i64,.tmpI 3 .u64,.row 7,.row 8]++E2 [(28,15)]),(999999,[]),(999998,[])],[]),(99,Tryz.f99,[(999999,[]),(999998,[])],[])] [(10,[.tmpI 3 .i64,.cels 10 3 (kN 77 23333333333333333333333333333333333333333333333333333333333333333211111111111),.celV 10 80 [ZA .u64] 39,.cT 10 81 Du 178,.row 7,.row 8,.tmpS 15 [ZA .i64] 3,.tmpS 16 L5 63]++E2 [(18,2),(48,27)]),(999999,[]),(999998,[])] [(14,[.tmpI 3 .i64]++E2 [(50,16)])] 200 Tryz.f7 c_jsnaps.a c_jsnaps.r (tp c_jsnaps.r) (v_Prog [.list [ZA .u8],.list [ZA .u64],.int .i64]) pC:=E1 (by kernel_rfl)
def ak0:c_jsnaps.Ok ZE:=
 GE (hl:=.inr (.inl ⟨(fun xs (h:jJ xs) L hL=>by unfold jJ at h;split at h<;>first|exact h.elim|(simp at hL;rcases hL with rfl|rfl|rfl;exact h.1.1;exact h.1.2;exact h.2)),rfl⟩)) pC (v_Prog [.list [ZA .u8],.list [ZA .u64],.int .i64]) aed (Am ak4<|Am ak1<|Am atc<|Am aqr<|Am as1<|Am amR<|Am ahL<|Am ak2<|Am atd<|Am ahI<|Am ahJ<|Am ak3<|Am atg AI) Tryz.func7 (GC Tryz.func20 (GC Tryz.func56 (GC Tryz.func61 (GC Tryz.func19 (GC Tryz.func52 (GC Tryz.func58 (GC Tryz.func99 E0))))))) agn<|gS fun p hp=>fun cx Qg an han fu hfu hp U g=>by
 simp only[c_jsnaps,jJ,dE,apy,b2i_one,ay,af]at hp;have Aq:=g;simp only[dE,apy,eu,RL,jT,S9,AA,Nat.reduceAdd]at g;simp only[pC,anw,anv,anu,TB,V5,ant,VH,SM,Tt,anr,anq,anp,sE,P3,ano,c_jcheck,c_jreads,c_jsec,c_rbits,c_rhol,c_jtgt,c_jargs,c_jmread,c_jsd,c_jwith,c_jsame,c_jframe,c_jctx,c_jsnaps,jM,pL,yw,jK,kA,kB,jL,pM,dE,apy,eu,RL,jT,S9,Ai,Nat.reduceSub,Nat.reduceAdd,-eq_self,ay,af,g];obtain⟨k0_i0,K0,M6,M5,QI⟩:=g;refine⟨?_,?_⟩
 .exact hp.1.1
 refine db ?_;constructor<;>intro c0;constructor<;>intro c1;constructor<;>intro c2
 .have e:Cm p cx an fu=_:=tZ (nE (Bt c0) (.inr (.inl (Ah c2)))) ST;have ej:cQ p cx an fu=_:=mH (nE (Bt c0) (.inr (.inl (Ah c2)))) ST;rw[e,ej]
 constructor<;>intro c3
 .have e:Cm p cx an fu=_:=tZ (nE (Bt c0) (.inr (.inr (Ah c3)))) ST;have ej:cQ p cx an fu=_:=mH (nE (Bt c0) (.inr (.inr (Ah c3)))) ST;rw[e,ej]
 constructor<;>intro c4
 .exact absurd (Ah c4) (by have:=wZ (Bt c0);have:=Bt c1;omega)
 refine⟨?_,?_⟩
 .first|exact Nat.zero_le _|exact cX (by have:=Ab c4;omega:cx.length<=256) ST
 intro e;have Rh:U.l 7=[]:=e;(try simp only[e,ay,af,-eq_self]);clear e;refine⟨?_,?_⟩
 .first|exact Nat.zero_le _|exact cX (by have:=Ab c4;omega:cx.length<=256) ST
 refine db ?_;have Al:=Bt c0;have hf:0<=fu/\fu<=10000:=by have:=Ab c2;have:=Ab c3;omega
 have Qg:cx.length<=256:=by have:=Ab c4;omega
 have hI:=cF hp.1.1 Al;have Ad:jV p cx fu=0:=agY Al (Bt c1) hf.1 hf.2;refine⟨JInv p cx an fu,fun ds=>(dI ds 0).toNat,JAt.init hf.1 hI.1.2.1,?_⟩;intro U1 AY hx1 Ba;obtain⟨_,z0,z1,z2,z3,z4,z5,z6,z7,z8,z9,L6,_⟩:=hx1;have hu:∀x∈[U1.i 10,U1.i 11,U1.i 12,U1.i 13,U1.i 14,U1.i 15,U1.i 16,U1.i 17,U1.i 18,U1.i 19,U1.i 20],Ae .u64 x=ZB:=by intro x hx;simp only[List.mem_cons,List.not_mem_nil,or_false]at hx;rcases hx with rfl|rfl|rfl|rfl|rfl|rfl|rfl|rfl|rfl|rfl|rfl<;>assumption
 clear z0 z1 z2 z3 z4 z5 z6 z7 z8 z9 L6;have hJ:JAt p cx an fu (U1.i 9) ⟨[U1.i 10,U1.i 11,U1.i 12,U1.i 13,U1.i 14,U1.i 15,U1.i 16,U1.i 17,U1.i 18,U1.i 19,U1.i 20],U1.i 21,U1.i 86,U1.l 87,U1.l 88,U1.l 89,U1.l 90⟩ (frI U1 22) (U1.l 91) (U1.l 92):=Ba;clear Ba;obtain⟨left,Eu⟩:∃z,U1.i 9=z:=⟨_,rfl⟩
 obtain⟨r0,D9⟩:∃z,U1.i 10=z:=⟨_,rfl⟩
 obtain⟨r1,D1⟩:∃z,U1.i 11=z:=⟨_,rfl⟩
 obtain⟨r2,FL⟩:∃z,U1.i 12=z:=⟨_,rfl⟩
 obtain⟨r3,D2⟩:∃z,U1.i 13=z:=⟨_,rfl⟩
 obtain⟨r4,FH⟩:∃z,U1.i 14=z:=⟨_,rfl⟩
 obtain⟨r5,Fb⟩:∃z,U1.i 15=z:=⟨_,rfl⟩
 obtain⟨r6,FT⟩:∃z,U1.i 16=z:=⟨_,rfl⟩
 obtain⟨r7,Iy⟩:∃z,U1.i 17=z:=⟨_,rfl⟩
 obtain⟨r8,Iw⟩:∃z,U1.i 18=z:=⟨_,rfl⟩
 obtain⟨r9,Il⟩:∃z,U1.i 19=z:=⟨_,rfl⟩
 obtain⟨r10,Io⟩:∃z,U1.i 20=z:=⟨_,rfl⟩
 obtain⟨st,IK⟩:∃z,U1.i 21=z:=⟨_,rfl⟩
 obtain⟨pc,IJ⟩:∃z,U1.i 86=z:=⟨_,rfl⟩
 obtain⟨a1,Im⟩:∃z,U1.l 87=z:=⟨_,rfl⟩
 obtain⟨t1,Ip⟩:∃z,U1.l 88=z:=⟨_,rfl⟩
 obtain⟨c1,IQ⟩:∃z,U1.l 89=z:=⟨_,rfl⟩
 obtain⟨f1,Iv⟩:∃z,U1.l 90=z:=⟨_,rfl⟩
 obtain⟨A1,It⟩:∃z,U1.l 91=z:=⟨_,rfl⟩
 obtain⟨L1,Ir⟩:∃z,U1.l 92=z:=⟨_,rfl⟩
 simp only[Eu,D9,D1,FL,D2,FH,Fb,FT,Iy,Iw,Il,Io,IK,IJ,Im,Ip,IQ,Iv,It,Ir]at hJ hu;have hR:=hJ.run;have Jj:=kL AY K0;have M4:=kL AY Rh;have DR:c1.length<=256:=by have:=hR.cxl;exact cX (Nat.le_of_eq this) Qg
 have q0:0<=pc:=hR.pc0;have q1:pc<(p.l.length:Int):=hR.pc1;have q2:f1.length=64:=hR.fm;have q4:(t1.length:Int)+left<=fu:=hR.tr;have q5:=hR.lo;have q6:=hR.hi;have q7:=hJ.la;have q8:=hJ.ll;simp only[Jj,M4,Eu,D9,D1,FL,D2,FH,Fb,FT,Iy,Iw,Il,Io,IK,IJ,Im,Ip,IQ,Iv,It,Ir,af,-eq_self];constructor<;>intro c5;constructor<;>intro c6;constructor<;>intro c7;refine⟨fun ds=>ds=[.z (Ac .sub .i64 left 1)],?_,?_⟩
 .rfl
 intro U2 Cf _ Gv;simp only[Be,L4,and_true]at Gv;have GZ:=Gv;have Jg:=kL Cf Jj;have Js:=kL Cf M4;have Jo:=kI Cf Eu;have G3:=kI Cf D9;have G7:=kI Cf D1;have GG:=kI Cf FL;have Ho:=kI Cf D2;have GI:=kI Cf FH;have GP:=kI Cf Fb;have GW:=kI Cf FT;have G6:=kI Cf Iy;have G0:=kI Cf Iw;have GH:=kI Cf Il;have GU:=kI Cf Io;have GQ:=kI Cf IK;have G9:=kI Cf IJ;have GN:=kL Cf Im;have Hn:=kL Cf Ip;have GX:=kL Cf IQ;have Hb:=kL Cf Iv;have GS:=kL Cf It;have Ha:=kL Cf Ir;have Eb:=hJ.snap;rw[<-kj (v:=22) Cf ST]at Eb;simp only[Jg,Js,Jo,G3,G7,GG,Ho,GI,GP,GW,G6,G0,GH,GU,GQ,G9,GN,Hn,GX,Hb,GS,Ha,GZ,af,-eq_self];constructor<;>intro c8
 .exact absurd (Ah c8) Fn
 constructor<;>intro c9;refine⟨?_,?_⟩
 .exact dr hp.1.1 Al q0 q1
 refine db ?_;constructor<;>intro BF;constructor<;>intro CD;constructor<;>intro B9
 .have Bi:=dr hp.1.1 Al q0 q1;have hd:=iQ Bi;exact absurd (Ah B9) Fn
 constructor<;>intro Cq;refine⟨?_,?_⟩
 .exact fun _=>(by have hd:=cr (dr hp.1.1 Al hR.pc0 hR.pc1);exact⟨hd.2.2.1,hd.2.2.2.1⟩)
 refine db ?_;refine db ?_
 .have Bi:=dr hp.1.1 Al q0 q1;have hd:=iQ Bi;have hk:(aa p.l pc).k=0:=Bt CD;have hw:Ac .andNot .i64 (bc (aa p.l pc)) st=0:=Bt BF;exact JAt.go hJ hp.1.1 Al hf.2 (Ah c5) (qo hw (.inl hk)) (RG (auO hk) hd.1 hd.2.1) rfl rfl (congrArg (fun s=>L1++[s]) Eb.symm) ((kj (v:=22) Cf ST).trans hJ.fr)
 .have Bi:=dr hp.1.1 Al q0 q1;have hd:=iQ Bi;exact absurd (Ab Cq) Fn
 constructor<;>intro CF;constructor<;>intro C3
 .have Bi:=dr hp.1.1 Al q0 q1;have hd:=iQ Bi;exact absurd (Ah C3) Fn
 constructor<;>intro Dk;refine⟨?_,?_⟩
 .exact XL
 refine db ?_;constructor<;>intro Df;constructor<;>intro Dg
 .have Bi:=dr hp.1.1 Al q0 q1;have hd:=iQ Bi;exact absurd (Ah Dg) Fn
 constructor<;>intro DA
 .have Bi:=dr hp.1.1 Al q0 q1;have hd:=iQ Bi;have hk:(aa p.l pc).k=1:=Bt CF;have hw:Ac .andNot .i64 (bc (aa p.l pc)) st=0:=Bt BF;have h16:=Bt Df;exact JAt.go hJ hp.1.1 Al hf.2 (Ah c5) (ah4 hw hk h16) (RG (auN hk) hd.1 hd.2.1) rfl rfl (congrArg (fun s=>L1++[s]) Eb.symm) ((kj (v:=22) Cf ST).trans hJ.fr)
 .have Bi:=dr hp.1.1 Al q0 q1;have hd:=iQ Bi;exact absurd (Ab DA) Fn
 refine⟨?_,?_⟩
 .exact XL
 refine db ?_
 .have hk:(aa p.l pc).k=1:=Bt CF;have hw:Ac .andNot .i64 (bc (aa p.l pc)) st=0:=Bt BF;have hh:=aqK (m:=⟨[r0,r1,r2,r3,r4,r5,r6,r7,r8,r9,r10],st,pc,a1,t1,c1,f1⟩) hw hk (Cc Df);have e:Cm p cx an fu=_:=mA Ad hR hf.2 (Ah c5) hh ST;have ej:=JAt.end Ad hJ (Ah c5) hh ST;rw[e,ej,Eb];rfl
 .have Bi:=dr hp.1.1 Al q0 q1;have hd:=iQ Bi;exact absurd (Ab Dk) Fn
 constructor<;>intro Dz;constructor<;>intro EN
 .have Bi:=dr hp.1.1 Al q0 q1;have hd:=iQ Bi;exact absurd (Ah EN) Fn
 constructor<;>intro FZ;constructor<;>intro Hk
 .have Bi:=dr hp.1.1 Al q0 q1;have hd:=iQ Bi;exact absurd (Ah Hk) Fn
 constructor<;>intro H9;refine db ?_;constructor<;>intro Gq;refine⟨?_,?_⟩
 .exact⟨XM,by decide⟩
 refine db ?_;constructor<;>intro JX;refine⟨?_,?_⟩
 .exact XL
 refine db ?_
 .exact absurd JX (by rw[ahS (by have:=bL Gq;omega)];decide)
 refine⟨?_,?_⟩
 .exact⟨XM,cX DR ST⟩
 intro e;have Lj:=e.1;(try simp only[e,ay,af,-eq_self]);clear e;constructor<;>intro Ix;have Bi:=dr hp.1.1 Al q0 q1;have hd:=iQ Bi;have hk:(aa p.l pc).k=2:=Bt Dz;obtain⟨a,ea⟩:∃a,Ac .add .u64 (([r0,r1,r2,r3,r4,r5,r6,r7,r8,r9,r10]:List Int).getD (gt p.l pc 5).toNat 0) (ZF .u64 (gt p.l pc 7))=a:=⟨_,rfl⟩
 obtain⟨n,en⟩:∃n,ZF .i64 (gt p.l pc 3)=n:=⟨_,rfl⟩
 obtain⟨v,ev⟩:∃v,([r0,r1,r2,r3,r4,r5,r6,r7,r8,r9,r10]:List Int).getD (gt p.l pc 6).toNat 0=v:=⟨_,rfl⟩
 have hv:0<=v/\v<=18446744073709551615:=ev▸abS hu _;have hs:aN n=ZB:=en▸Gq;have ha:Ae .u64 a=ZB:=ea▸mI _ _;have LB:=bL hs;have h1:1<=n:=Fn;have h8:n<=8:=Fn;have hq:∀k,n.toNat=k->k<=8:=fun k hk=>by omega
 simp only[ea,en]at Ix Lj;have fr:inr 2097152 c1 a n=ZB:=Ix;have W:=Win.of fr ha ST (cX DR ST) h1 h8;simp only[ea,en,ev,-eq_self];refine⟨fun ds=>∃k:Nat,ds=[.z (k:Int),.z (IR v k),.l (putL c1 (a-2097152).toNat v k),.l f1]/\k<=n.toNat,fun ds=>n.toNat-(dI ds 0).toNat,⟨0,by rw[arQ];rfl,Nat.zero_le _⟩,?_⟩;intro U3 Bd _ IH;obtain⟨k,Bq,D8⟩:=IH;simp only[Be,L4,and_true]at Bq;obtain⟨G4,L9,LN,LZ⟩:=Bq;have HC:=kL Bd Jg;have HU:=kL Bd Js;have HK:=kI Bd Jo;have FS:=kI Bd G3;have Fy:=kI Bd G7;have Ft:=kI Bd GG;have FW:=kI Bd Ho;have FM:=kI Bd GI;have Fc:=kI Bd GP;have Fa:=kI Bd GW;have FF:=kI Bd G6;have FG:=kI Bd G0;have Fg:=kI Bd GH;have FB:=kI Bd GU;have Fl:=kI Bd GQ;have E6:=kI Bd G9;have Fx:=kL Bd GN;have Fp:=kL Bd Hn;have E5:=kL Bd GX;have FN:=kL Bd Hb;have Fu:=kL Bd GS;have Fv:=kL Bd Ha;have FR:=kI Bd GZ;have Ow:U3.i 98=a-2097152:=(kI Bd Lj).trans (ri fr h1);have Ib:=Eb;rw[<-kj (v:=22) Bd ST]at Ib;simp only[HC,HU,HK,FS,Fy,Ft,FW,FM,Fc,Fa,FF,FG,Fg,FB,Fl,E6,Fx,Fp,E5,FN,Fu,Fv,FR,G4,L9,LN,LZ,Ow,ea,en,ev,-eq_self];constructor<;>intro Je;constructor<;>intro Kd
 .have Gd:k<n.toNat:=by have:=Ah Je;omega
  have w1:=W.lo;have w2:=W.hi;rw[(W.byte (cX DR ST) Gd).1]at Kd;exact absurd (Ah Kd) Fn
 constructor<;>intro Ku
 .have Gd:k<n.toNat:=by have:=Ah Je;omega
  rw[S3 W (cX DR ST) hv.1 hv.2 Gd,arP hv.1 hv.2,QK Gd (cX (by omega:n.toNat<=8) ST)];exact⟨⟨k+1,rfl,Gd⟩,by show n.toNat-(((k+1:Nat):Int)).toNat<n.toNat-((k:Int)).toNat;omega⟩
 .have Gd:k<n.toNat:=by have:=Ah Je;omega
  have w1:=W.lo;have w2:=W.hi;rw[(W.byte (cX DR ST) Gd).1,fG]at Ku;exact absurd (Ab Ku) Fn
 refine⟨?_,?_⟩
 .exact⟨rfl,by rw[fG];exact DR,q2,rfl⟩
 refine db ?_
 .have hk:(aa p.l pc).k=2:=Bt Dz;have hw:Ac .andNot .i64 (bc (aa p.l pc)) st=0:=Bt BF;obtain rfl:k=n.toNat:=by have:=Ab Je;omega
  have g2:inr 3145728 f1 a n=ZC:=by have:=W.hi;have:=W.lo;unfold inr;rw[eY Fn];rfl
  have eC:LI ⟨[r0,r1,r2,r3,r4,r5,r6,r7,r8,r9,r10],st,pc,a1,t1,c1,f1⟩ a n v=putL c1 (a-2097152).toNat v n.toNat:=if_pos fr;have eF:Jq ⟨[r0,r1,r2,r3,r4,r5,r6,r7,r8,r9,r10],st,pc,a1,t1,c1,f1⟩ a n v=f1:=if_neg (by rw[g2];decide);have eO:EV ⟨[r0,r1,r2,r3,r4,r5,r6,r7,r8,r9,r10],st,pc,a1,t1,c1,f1⟩ a n=ZB:=by unfold EV;rw[show inr 2097152 c1 a n=ZB from fr];rfl
  exact JAt.go hJ hp.1.1 Al hf.2 (Ah c5) (zf hw hk ea en eO) (by rw[asr (m:=⟨[r0,r1,r2,r3,r4,r5,r6,r7,r8,r9,r10],st,pc,a1,t1,c1,f1⟩) hk ea en ev,eC,eF];rfl) rfl rfl (congrArg (fun s=>L1++[s]) Ib.symm) (Xh q2)
 refine⟨?_,?_⟩
 .exact⟨XM,by rw[q2];decide⟩
 intro e;have Jl:=e.1;(try simp only[e,ay,af,-eq_self]);clear e;constructor<;>intro Kq;have Bi:=dr hp.1.1 Al q0 q1;have hd:=iQ Bi;have hk:(aa p.l pc).k=2:=Bt Dz;obtain⟨a,ea⟩:∃a,Ac .add .u64 (([r0,r1,r2,r3,r4,r5,r6,r7,r8,r9,r10]:List Int).getD (gt p.l pc 5).toNat 0) (ZF .u64 (gt p.l pc 7))=a:=⟨_,rfl⟩
 obtain⟨n,en⟩:∃n,ZF .i64 (gt p.l pc 3)=n:=⟨_,rfl⟩
 obtain⟨v,ev⟩:∃v,([r0,r1,r2,r3,r4,r5,r6,r7,r8,r9,r10]:List Int).getD (gt p.l pc 6).toNat 0=v:=⟨_,rfl⟩
 have hv:0<=v/\v<=18446744073709551615:=ev▸abS hu _;have hs:aN n=ZB:=en▸Gq;have ha:Ae .u64 a=ZB:=ea▸mI _ _;have LB:=bL hs;have h1:1<=n:=Fn;have h8:n<=8:=Fn;have hq:∀k,n.toNat=k->k<=8:=fun k hk=>by omega
 simp only[ea,en]at Ix Kq Jl;have fr:inr 3145728 f1 a n=ZB:=Kq;have W:=Win.of fr ha ST (by rw[q2];decide) h1 h8;simp only[ea,en,ev,-eq_self];refine⟨fun ds=>∃k:Nat,ds=[.z (k:Int),.z (IR v k),.l c1,.l (putL f1 (a-3145728).toNat v k)]/\k<=n.toNat,fun ds=>n.toNat-(dI ds 0).toNat,⟨0,by rw[arQ];rfl,Nat.zero_le _⟩,?_⟩;intro U3 Bd _ IH;obtain⟨k,Bq,D8⟩:=IH;simp only[Be,L4,and_true]at Bq;obtain⟨LQ,LV,Mf,LU⟩:=Bq;have HC:=kL Bd Jg;have HU:=kL Bd Js;have HK:=kI Bd Jo;have FS:=kI Bd G3;have Fy:=kI Bd G7;have Ft:=kI Bd GG;have FW:=kI Bd Ho;have FM:=kI Bd GI;have Fc:=kI Bd GP;have Fa:=kI Bd GW;have FF:=kI Bd G6;have FG:=kI Bd G0;have Fg:=kI Bd GH;have FB:=kI Bd GU;have Fl:=kI Bd GQ;have E6:=kI Bd G9;have Fx:=kL Bd GN;have Fp:=kL Bd Hn;have E5:=kL Bd GX;have FN:=kL Bd Hb;have Fu:=kL Bd GS;have Fv:=kL Bd Ha;have FR:=kI Bd GZ;have G4:U3.i 100=a-3145728:=(kI Bd Jl).trans (ri fr h1);have Ib:=Eb;rw[<-kj (v:=22) Bd ST]at Ib;simp only[HC,HU,HK,FS,Fy,Ft,FW,FM,Fc,Fa,FF,FG,Fg,FB,Fl,E6,Fx,Fp,E5,FN,Fu,Fv,FR,LQ,LV,Mf,LU,G4,ea,en,ev,-eq_self];constructor<;>intro JW;constructor<;>intro La
 .have Gd:k<n.toNat:=by have:=Ah JW;omega
  have w1:=W.lo;have w2:=W.hi;rw[(W.byte (by rw[q2];decide) Gd).1]at La;exact absurd (Ah La) Fn
 constructor<;>intro KG
 .have Gd:k<n.toNat:=by have:=Ah JW;omega
  rw[S3 W (by rw[q2];decide) hv.1 hv.2 Gd,arP hv.1 hv.2,QK Gd (cX (by omega:n.toNat<=8) ST)];exact⟨⟨k+1,rfl,Gd⟩,by show n.toNat-(((k+1:Nat):Int)).toNat<n.toNat-((k:Int)).toNat;omega⟩
 .have Gd:k<n.toNat:=by have:=Ah JW;omega
  have w1:=W.lo;have w2:=W.hi;rw[(W.byte (by rw[q2];decide) Gd).1,fG]at KG;exact absurd (Ab KG) Fn
 refine⟨?_,?_⟩
 .exact⟨rfl,DR,by rw[fG];exact q2,rfl⟩
 refine db ?_
 .have hk:(aa p.l pc).k=2:=Bt Dz;have hw:Ac .andNot .i64 (bc (aa p.l pc)) st=0:=Bt BF;obtain rfl:k=n.toNat:=by have:=Ab JW;omega
  have g1:inr 2097152 c1 a n=ZC:=Ix;have eC:LI ⟨[r0,r1,r2,r3,r4,r5,r6,r7,r8,r9,r10],st,pc,a1,t1,c1,f1⟩ a n v=c1:=if_neg (by rw[g1];decide);have eF:Jq ⟨[r0,r1,r2,r3,r4,r5,r6,r7,r8,r9,r10],st,pc,a1,t1,c1,f1⟩ a n v=putL f1 (a-3145728).toNat v n.toNat:=if_pos fr;have eO:EV ⟨[r0,r1,r2,r3,r4,r5,r6,r7,r8,r9,r10],st,pc,a1,t1,c1,f1⟩ a n=ZB:=by unfold EV;rw[show inr 3145728 f1 a n=ZB from fr,Bool.or_true]
  exact JAt.go hJ hp.1.1 Al hf.2 (Ah c5) (zf hw hk ea en eO) (by rw[asr (m:=⟨[r0,r1,r2,r3,r4,r5,r6,r7,r8,r9,r10],st,pc,a1,t1,c1,f1⟩) hk ea en ev,eC,eF];rfl) rfl rfl (congrArg (fun s=>L1++[s]) Ib.symm) (Xh (by rw[fG];exact q2))
 refine⟨?_,?_⟩
 .exact⟨XM,by decide⟩
 refine db ?_;constructor<;>intro LD;refine⟨fun _=>False,fun _=>0,absurd LD (by rw[ahS (by have:=bL Gq;omega)];decide),?_⟩;intro U3 Bd _ hif;constructor<;>intro LK
 .exact hif.elim
 refine⟨?_,?_⟩
 .exact hif.elim
 refine db ?_
 .exact hif.elim
 refine⟨?_,?_⟩
 .exact XL
 refine db ?_
 .have hk:(aa p.l pc).k=2:=Bt Dz;have hw:Ac .andNot .i64 (bc (aa p.l pc)) st=0:=Bt BF;have eO:EV (⟨[r0,r1,r2,r3,r4,r5,r6,r7,r8,r9,r10],st,pc,a1,t1,c1,f1⟩:Ms) (F8 ((⟨[r0,r1,r2,r3,r4,r5,r6,r7,r8,r9,r10],st,pc,a1,t1,c1,f1⟩:Ms).r (aa p.l pc).d) (aa p.l pc).off) (ZF .i64 (aa p.l pc).sz)=ZC:=by unfold EV;rw[show inr 2097152 c1 (F8 ((⟨[r0,r1,r2,r3,r4,r5,r6,r7,r8,r9,r10],st,pc,a1,t1,c1,f1⟩:Ms).r (aa p.l pc).d) (aa p.l pc).off) (ZF .i64 (aa p.l pc).sz)=ZC from Ix,show inr 3145728 f1 (F8 ((⟨[r0,r1,r2,r3,r4,r5,r6,r7,r8,r9,r10],st,pc,a1,t1,c1,f1⟩:Ms).r (aa p.l pc).d) (aa p.l pc).off) (ZF .i64 (aa p.l pc).sz)=ZC from Kq];rfl
  have hh:=aqJ (m:=⟨[r0,r1,r2,r3,r4,r5,r6,r7,r8,r9,r10],st,pc,a1,t1,c1,f1⟩) hw hk rfl rfl eO;have e:Cm p cx an fu=_:=mA Ad hR hf.2 (Ah c5) hh ST;have ej:=JAt.end Ad hJ (Ah c5) hh ST;rw[e,ej,Eb];rfl
 refine⟨?_,?_⟩
 .exact XL
 refine db ?_
 .have Bi:=dr hp.1.1 Al q0 q1;have hd:=iQ Bi;have hk:(aa p.l pc).k=2:=Bt Dz;have hw:Ac .andNot .i64 (bc (aa p.l pc)) st=0:=Bt BF;exact absurd (acH Bi (.inr hk)) (by rw[show aN (ZF .i64 (aa p.l pc).sz)=ZC from Gq];decide)
 .have Bi:=dr hp.1.1 Al q0 q1;have hd:=iQ Bi;exact absurd (Ab H9) Fn
 .have Bi:=dr hp.1.1 Al q0 q1;have hd:=iQ Bi;exact absurd (Ab FZ) Fn
 constructor<;>intro Kk;constructor<;>intro LG
 .have Bi:=dr hp.1.1 Al q0 q1;have hd:=iQ Bi;exact absurd (Ah LG) Fn
 constructor<;>intro LA;refine⟨?_,?_⟩
 .exact fun _=>(by have hd:=cr (dr hp.1.1 Al hR.pc0 hR.pc1);exact⟨hd.2.2.1,hd.2.2.2.1⟩)
 refine db ?_;refine db ?_;constructor<;>intro KY;refine db ?_
 .have hk:(aa p.l pc).k=3:=Bt Kk;have hw:Ac .andNot .i64 (bc (aa p.l pc)) st=0:=Bt BF;exact JAt.go hJ hp.1.1 Al hf.2 (Ah c5) (qo hw (.inr (.inl hk))) ((aso (m:=⟨[r0,r1,r2,r3,r4,r5,r6,r7,r8,r9,r10],st,pc,a1,t1,c1,f1⟩) hk KY).symm) rfl rfl (congrArg (fun s=>L1++[s]) Eb.symm) ((kj (v:=22) Cf ST).trans hJ.fr)
 .have hk:(aa p.l pc).k=3:=Bt Kk;have hw:Ac .andNot .i64 (bc (aa p.l pc)) st=0:=Bt BF;exact JAt.go hJ hp.1.1 Al hf.2 (Ah c5) (qo hw (.inr (.inl hk))) ((asp (m:=⟨[r0,r1,r2,r3,r4,r5,r6,r7,r8,r9,r10],st,pc,a1,t1,c1,f1⟩) hk KY).symm) rfl rfl (congrArg (fun s=>L1++[s]) Eb.symm) ((kj (v:=22) Cf ST).trans hJ.fr)
 .have Bi:=dr hp.1.1 Al q0 q1;have hd:=iQ Bi;exact absurd (Ab LA) Fn
 constructor<;>intro KZ;refine db ?_
 .have hk:(aa p.l pc).k=4:=Bt KZ;have hw:Ac .andNot .i64 (bc (aa p.l pc)) st=0:=Bt BF;exact JAt.go hJ hp.1.1 Al hf.2 (Ah c5) (qo hw (.inr (.inr hk))) ((auM (m:=⟨[r0,r1,r2,r3,r4,r5,r6,r7,r8,r9,r10],st,pc,a1,t1,c1,f1⟩) hk).symm) rfl rfl (congrArg (fun s=>L1++[s]) Eb.symm) ((kj (v:=22) Cf ST).trans hJ.fr)
 constructor<;>intro Kj;constructor<;>intro JN;refine⟨?_,?_⟩
 .exact XL
 refine db ?_
 .have hk:(aa p.l pc).k=5:=Bt Kj;have hw:Ac .andNot .i64 (bc (aa p.l pc)) st=0:=Bt BF;have hh:=ah5 (m:=⟨[r0,r1,r2,r3,r4,r5,r6,r7,r8,r9,r10],st,pc,a1,t1,c1,f1⟩) hw hk (show a1.length=0 by have:=Bt JN;omega);have e:Cm p cx an fu=_:=mA Ad hR hf.2 (Ah c5) hh ST;have ej:=JAt.end Ad hJ (Ah c5) hh ST;rw[e,ej,Eb];rfl
 constructor<;>intro LF;constructor<;>intro Kf
 .exact absurd (Ah Kf) (by have:=Cc JN;omega)
 have Bi:=dr hp.1.1 Al q0 q1;have hd:=iQ Bi;have hk:(aa p.l pc).k=5:=Bt Kj;have hw:Ac .andNot .i64 (bc (aa p.l pc)) st=0:=Bt BF;refine⟨fun ds=>∃k:Nat,ds=[.z ((k:Int)+1),.l (CU [r0,r1,r2,r3,r4,r5,r6,r7,r8,r9,r10] (k:Int))]/\(k:Int)<=fJ (gt p.l pc 8),fun ds=>7-(dI ds 0).toNat,⟨0,by rw[at7];rfl,(fI _).1⟩,?_⟩;intro U3 Bd _ IH;obtain⟨k,Bq,D8⟩:=IH;simp only[Be,L4,and_true]at Bq;obtain⟨ON,PE⟩:=Bq;have HC:=kL Bd Jg;have HU:=kL Bd Js;have HK:=kI Bd Jo;have FS:=kI Bd G3;have Fy:=kI Bd G7;have Ft:=kI Bd GG;have FW:=kI Bd Ho;have FM:=kI Bd GI;have Fc:=kI Bd GP;have Fa:=kI Bd GW;have FF:=kI Bd G6;have FG:=kI Bd G0;have Fg:=kI Bd GH;have FB:=kI Bd GU;have Fl:=kI Bd GQ;have E6:=kI Bd G9;have Fx:=kL Bd GN;have Fp:=kL Bd Hn;have E5:=kL Bd GX;have FN:=kL Bd Hb;have Fu:=kL Bd GS;have Fv:=kL Bd Ha;have FR:=kI Bd GZ;have Ib:=Eb;rw[<-kj (v:=22) Bd ST]at Ib;have hb5:=(fI (gt p.l pc 8)).2;have hA5:=alI (rg:=[r0,r1,r2,r3,r4,r5,r6,r7,r8,r9,r10]) (k:=k) Fn;simp only[HC,HU,HK,FS,Fy,Ft,FW,FM,Fc,Fa,FF,FG,Fg,FB,Fl,E6,Fx,Fp,E5,FN,Fu,Fv,FR,ON,PE,-eq_self];refine db ?_;constructor<;>intro H7;constructor<;>intro Ki
 .exact absurd (Ah Ki) (by have q:=Ah H7;omega)
 constructor<;>intro Kt
 .have hk9:(k:Int)=fJ (aa p.l pc).imm:=by have:=Ah H7;show(k:Int)=fJ (gt p.l pc 8);omega
  exact JAt.go hJ hp.1.1 Al hf.2 (Ah c5) (ah6 hw hk (show a1.length≠0 by have:=Cc JN;omega)) (asn (m:=⟨[r0,r1,r2,r3,r4,r5,r6,r7,r8,r9,r10],st,pc,a1,t1,c1,f1⟩) hk hk9 rfl) rfl rfl (congrArg (fun s=>L1++[s]) Ib.symm) ((kj (v:=22) Bd ST).trans ((kj (v:=22) Cf ST).trans hJ.fr))
 .exact absurd (Ab Kt) (by have:=Ah c5;omega)
 constructor<;>intro Kh
 .exact absurd (Ah Kh) (by have q:=Ab H7;omega)
 constructor<;>intro Kv;constructor<;>intro Ka
 .have q:=Ab H7;have Vv:k=0\/k=1\/k=2\/k=3\/k=4:=Fn;refine⟨⟨k+1,?_,by omega⟩,?_⟩
  .rcases Vv with rfl|rfl|rfl|rfl|rfl<;>rfl
  .show 7-(Ac .add .i64 ((k:Int)+1) 1).toNat<7-((k:Int)+1).toNat;rcases Vv with rfl|rfl|rfl|rfl|rfl<;>decide
 .exact absurd (Ab Ka) (by have q:=Ab H7;omega)
 .exact absurd (Ab Kv) (by have q:=Ab H7;omega)
 .exact absurd (Ab LF) (by have:=Cc JN;omega)
 constructor<;>intro Jy;refine⟨?_,?_⟩
 .exact XL
 refine db ?_
 .have hk:(aa p.l pc).k=6:=Bt Jy;have hw:Ac .andNot .i64 (bc (aa p.l pc)) st=0:=Bt BF;have hh:=amY (m:=⟨[r0,r1,r2,r3,r4,r5,r6,r7,r8,r9,r10],st,pc,a1,t1,c1,f1⟩) hw hk;have e:Cm p cx an fu=_:=mA Ad hR hf.2 (Ah c5) hh ST;have ej:=JAt.end Ad hJ (Ah c5) hh ST;rw[e,ej,Eb];rfl
 .have Bi:=dr hp.1.1 Al q0 q1;have hd:=iQ Bi;have n0:=Cc CD;have n1:=Cc CF;have n2:=Cc Dz;have n3:=Cc Kk;have n4:=Cc KZ;have n5:=Cc Kj;have n6:=Cc Jy;exact absurd hd.2.2.2.2.2.2.2 Fn
 refine⟨?_,?_⟩
 .exact XL
 refine db ?_
 .have hh:=atr (m:=⟨[r0,r1,r2,r3,r4,r5,r6,r7,r8,r9,r10],st,pc,a1,t1,c1,f1⟩) (Cc BF);have e:Cm p cx an fu=_:=mA Ad hR hf.2 (Ah c5) hh ST;have ej:=JAt.end Ad hJ (Ah c5) hh ST;rw[e,ej,Eb];rfl
 .exact absurd q1 (Ab c9)
 .exact absurd (show(L1.length:Int)<1073741824 by omega) (Ab c7)
 .exact absurd (show(A1.length:Int)<1073741824 by omega) (Ab c6)
 refine⟨?_,?_⟩
 .exact XL
 refine db ?_
 .have e:Cm p cx an fu=_:=akA Ad hR (Ab c5);have ej:=JAt.out Ad hJ (Ab c5);rw[e,ej]
 .have e:Cm p cx an fu=_:=tZ (nE (Bt c0) (.inl (Cc c1))) ST;have ej:cQ p cx an fu=_:=mH (nE (Bt c0) (.inl (Cc c1))) ST;rw[e,ej]
 .have e:Cm p cx an fu=_:=tZ (abk (Cc c0)) (Cc c0);have ej:cQ p cx an fu=_:=mH (abk (Cc c0)) (Cc c0);rw[e,ej]
def wI(k:q2)(h:p->q=q2:=by intro e;(try simp only[e,Kn.eta,Pi.eta,Pu.eta,Rg.eta,Sc.eta,Sc.eta_r,Sc.eta_k,Sc.eta_2,-eq_self]);rfl):p->q:=fun e=>(h e).symm▸k
def aoy:List (Nat×TI):=[(2,CB),
 (39,eX),
 (46,gZ),
 (48,jl),
 (50,PY)]
def uU:∀t i,(t,i)∈aoy->TIok ZE t i:=bi B1 B1 (by kernel_rfl)
def c_wmay:Cd:=⟨102,[.agg kSc],[.one .bool],rd_Sc fun a _=>[.z (AD (Bf a))],T0⟩
def aft:Tr:=
(.call 0 [.bool] (.vs 0 4 .nil) 6
(.br (.s 6)
(.call 1 [.bool] (.vs 4 2 .nil) 7
(.u (.j (.s 7) .nil)))
zlF))
def amH:c_wmay.Ok ZE:=
 AS aft (v_Sc []) uU (Am amK<|Am amL AI) Tryz.func102<|dt fun a ha hp U g=>by
 simp only[AN,AJ,AL,AA,Nat.reduceAdd]at g;simp only[aft,c_rmay,c_qmay,c_wmay,AN,AJ,AL,Ai,Nat.reduceSub,Nat.reduceAdd,-eq_self,Kn.eta,Pi.eta,Pu.eta,Rg.eta,Sc.eta,Sc.eta_r,Sc.eta_k,Sc.eta_2,g];refine wI ?_;constructor<;>intro c0;refine wI ?_
 .exact YL
 .exact YL
def c_whas:Cd:=⟨66,[.agg kSc,.one (.int .u64)],[.one .bool],rd_Sc fun a=>rdZ fun v _=>[.z (AD (A0 a v))],T0⟩
def afu:Tr:=
(.call 0 [.bool] (.vs 0 6 .nil) 7
(.br (.s 7)
(.call 1 [.bool] (.vs 0 4 (.cons (.w 6) .nil)) 8
(.br (.s 8)
(.call 2 [.bool] (.vs 4 3 .nil) 9
(.u (.j (.s 9) .nil)))
zlF))
zlF))
def asM:c_whas.Ok ZE:=
 AS afu (v_Sc [.int .u64]) uU (Am amH<|Am as2<|Am as3 AI) Tryz.func66<|dt fun a ha=>fun v hv hp U g=>by
 simp only[AN,AJ,AL,AA,Nat.reduceAdd]at g;simp only[afu,c_wmay,c_rhas,c_qhas,c_whas,AN,AJ,AL,Ai,Nat.reduceSub,Nat.reduceAdd,-eq_self,Kn.eta,Pi.eta,Pu.eta,Rg.eta,Sc.eta,Sc.eta_r,Sc.eta_k,Sc.eta_2,g];refine wI ?_
 .repeat' first|apply aI<;>intro c|refine wI ?_|exact Yb
def aG(k:q2)(h:p->q=q2:=by intro e;(try simp only[e,bF,-eq_self]);rfl):p->q:=fun e=>(h e).symm▸k
def ael:List (Nat×TI):=[(2,CB),
 (3,CX),
 (5,KQ),
 (38,fT),
 (39,eX),
 (46,gZ),
 (48,jl),
 (50,eM),
 (52,qS),
 (53,qR),
 (54,qQ),
 (56,uZ),
 (60,RR),
 (61,Q5),
 (63,Sn)]
def lW:∀t i,(t,i)∈ael->TIok ZE t i:=bi (DU (z:=Ec) ⟨ra,lh⟩<|DU (z:=Dv) ⟨qZ,lg⟩ B1) B1 (by kernel_rfl)
def c_ytok:Cd:=⟨65,[.agg kTy],[.one .bool],rd_Ty fun t _=>[.z (AD (Bg t))],T0⟩
def ann:Tr:=(.br (.lt (.w 8) (.w 7))
zlF
(.br (.lt (.w 7) (.p (-1048576)))
zlF
(.br (.lt (.p 1048576) (.w 8))
zlF
(.u (.j (.and (.eq (.w 1) (.p 0)) (.and (.eq (.w 2) (.p 0)) (.and (.eq (.w 3) (.p 0)) (.and (.eq (.w 4) (.p 0)) (.and (.eq (.w 5) (.p 0)) (.and (.eq (.w 6) (.p 0)) (.tt ZB))))))) .nil)))))
def afr:Tr:=
(.br (.eq (.w 0) (.p 0))
(.u (.j (.and (.eq (.w 0) (.p 0)) (.and (.eq (.w 1) (.p 0)) (.and (.eq (.w 2) (.p 0)) (.and (.eq (.w 3) (.p 0)) (.and (.eq (.w 4) (.p 0)) (.and (.eq (.w 5) (.p 0)) (.and (.eq (.w 6) (.p 0)) (.and (.eq (.w 7) (.p 0)) (.and (.eq (.w 8) (.p 0)) (.tt ZB)))))))))) .nil))
(.br (.eq (.w 0) (.p 1))
(.call 0 [.bool] (.vs 1 6 .nil) 9
(.br (.s 9)
(.br (.eq (.w 7) (.p 0))
(.u (.j (.eq (.w 8) (.p 0)) .nil))
zlF)
zlF))
(.br (.eq (.w 0) (.p 2))
ann
(.br (.eq (.w 0) (.p 3))
ann
zlF))))
def amG:c_ytok.Ok ZE:=
 AS afr (v_Ty []) lW (Am amH AI) Tryz.func65<|bG fun t ht hp U g=>by
 simp only[AE,AN,AA,Nat.reduceAdd]at g;simp only[afr,ann,c_wmay,c_ytok,AE,AN,Ai,Nat.reduceSub,Nat.reduceAdd,-eq_self,bF,g]
 .repeat' first|apply aI<;>intro c|refine aG ?_|exact Id
def c_ymay:Cd:=⟨25,[.agg kSta],[.one .bool],rd_Sta fun s _=>[.z (AD (Az s))],T0⟩
def afs:Tr:=
(.call 0 [.bool] (.vs 0 9 .nil) 171
(.br (.s 171)
(.call 0 [.bool] (.vs 9 9 .nil) 172
(.br (.s 172)
(.call 0 [.bool] (.vs 18 9 .nil) 173
(.br (.s 173)
(.call 0 [.bool] (.vs 27 9 .nil) 174
(.br (.s 174)
(.call 0 [.bool] (.vs 36 9 .nil) 175
(.br (.s 175)
(.call 0 [.bool] (.vs 45 9 .nil) 176
(.br (.s 176)
(.call 0 [.bool] (.vs 54 9 .nil) 177
(.br (.s 177)
(.call 0 [.bool] (.vs 63 9 .nil) 178
(.br (.s 178)
(.call 0 [.bool] (.vs 72 9 .nil) 179
(.br (.s 179)
(.call 0 [.bool] (.vs 81 9 .nil) 180
(.br (.s 180)
(.call 0 [.bool] (.vs 90 9 .nil) 181
(.br (.s 181)
(.call 0 [.bool] (.vs 99 9 .nil) 182
(.br (.s 182)
(.br (.eq (.w 99) (.p 0))
zlF
(.call 0 [.bool] (.vs 108 9 .nil) 183
(.br (.s 183)
(.br (.eq (.w 108) (.p 0))
zlF
(.call 0 [.bool] (.vs 117 9 .nil) 184
(.br (.s 184)
(.br (.eq (.w 117) (.p 0))
zlF
(.call 0 [.bool] (.vs 126 9 .nil) 185
(.br (.s 185)
(.br (.eq (.w 126) (.p 0))
zlF
(.call 0 [.bool] (.vs 135 9 .nil) 186
(.br (.s 186)
(.br (.eq (.w 135) (.p 0))
zlF
(.call 0 [.bool] (.vs 144 9 .nil) 187
(.br (.s 187)
(.br (.eq (.w 144) (.p 0))
zlF
(.call 0 [.bool] (.vs 153 9 .nil) 188
(.br (.s 188)
(.br (.eq (.w 153) (.p 0))
zlF
(.call 0 [.bool] (.vs 162 9 .nil) 189
(.br (.s 189)
(.br (.eq (.w 162) (.p 0))
zlF
zlT)
zlF)))
zlF)))
zlF)))
zlF)))
zlF)))
zlF)))
zlF)))
zlF))
zlF))
zlF))
zlF))
zlF))
zlF))
zlF))
zlF))
zlF))
zlF))
zlF))
zlF))
def asK:c_ymay.Ok ZE:=
 AS afs (v_Sta []) lW (Am amG AI) Tryz.func25<|dS fun s hs hp U g=>by
 simp only[c_ymay,bT,fq,rdZ,rdB,rdL];simp only[bX,AE,AA,Nat.reduceAdd]at g;simp(maxSteps:=10000000) only[afs,Kp,c_ytok,rdZ,rdB,rdL,c_ymay,bX,AE,Ai,Nat.reduceSub,Nat.reduceAdd,-eq_self,bF,g];refine aG ?_
 .repeat' first|apply aI<;>intro c|refine aG ?_|exact Os
def c_yhold:Cd:=⟨26,[.agg kTy,.one (.int .u64)],[.one .bool],rd_Ty fun t=>rdZ fun v _=>[.z (AD (aQ t v))],T0⟩
def anl:E:=(.F .i64 (.f .sub .u64 (.w 9) (.p 3145728)))
def WC:E:=(.F .i64 (.f .sub .u64 (.w 9) (.p 2097152)))
def aax:Tr:=
(.call 0 [.bool] (.vs 0 9 .nil) 10
(.br (.s 10)
(.br (.eq (.w 0) (.p 0))
zlT
(.br (.eq (.w 0) (.p 1))
(.call 1 [.bool] (.vs 1 6 (.cons (.w 9) .nil)) 11
(.u (.j (.s 11) .nil)))
(.br (.eq (.w 0) (.p 2))
(.br (.lt WC (.w 7))
zlF
(.u (.j (.not (.lt (.w 8) WC)) .nil)))
(.br (.lt anl (.w 7))
zlF
(.u (.j (.not (.lt (.w 8) anl)) .nil))))))
zlF))
def aqa:c_yhold.Ok ZE:=
 AS aax (v_Ty [.int .u64]) lW (Am amG<|Am asM AI) Tryz.func26<|bG fun t ht=>fun v hv hp U g=>by
 simp only[AE,AN,AA,Nat.reduceAdd]at g;simp only[aax,WC,anl,c_ytok,c_whas,c_yhold,AE,AN,Ai,Nat.reduceSub,Nat.reduceAdd,-eq_self,bF,g];refine aG ?_;constructor<;>intro c0;constructor<;>intro c1
 .rw[xV c0 (A6 c1)];try rfl
 constructor<;>intro c2;refine aG ?_
 .rw[nb c0 (A6 c2)];try rfl
 constructor<;>intro c3;constructor<;>intro c4
 .simp only[Ac]at c4 ⊢;rw[te c0 (A6 c3),uj c4];try rfl
 .simp only[Ac]at c4 ⊢;rw[te c0 (A6 c3),oI c4];try rfl
 constructor<;>intro c5
 .have hk:t.k=3:=(by rcases fS c0 with h|h|h|h<;>first|exact h|(rw[h]at c1 c2 c3;simp at c1 c2 c3))
  simp only[Ac]at c5 ⊢;rw[td c0 hk,uj c5];try rfl
 .have hk:t.k=3:=(by rcases fS c0 with h|h|h|h<;>first|exact h|(rw[h]at c1 c2 c3;simp at c1 c2 c3))
  simp only[Ac]at c5 ⊢;rw[td c0 hk,oI c5];try rfl
 .rw[aab c0]
def c_yhas:Cd:=⟨10,[.agg kSta,.agg kSnap],[.one .bool],rd_Sta fun s=>rd_Snap fun x _=>[.z (AD (Ar s x))],T0⟩
def ym:Tr:=
(.call 0 [.bool] (.vs 0 171 .nil) 247
(.br (.s 247)
(.cut 0 248 []
(.br (.eq (.w 0) (.p 0))
(.call 1 [.bool] (.vs 0 9 (.cons (.w 171) .nil)) 248
(.br (.s 248)
(.next 0 .nil)
zlF))
(.br (.eq (.f .and .i64 (.f .shr .i64 (.w 182) (.p 0)) (.p 1)) (.p 0))
zlF
(.call 1 [.bool] (.vs 0 9 (.cons (.w 171) .nil)) 248
(.br (.s 248)
(.next 0 .nil)
zlF))))
(.cut 1 248 []
(.br (.eq (.w 9) (.p 0))
(.call 1 [.bool] (.vs 9 9 (.cons (.w 172) .nil)) 248
(.br (.s 248)
(.next 1 .nil)
zlF))
(.br (.eq (.f .and .i64 (.f .shr .i64 (.w 182) (.p 1)) (.p 1)) (.p 0))
zlF
(.call 1 [.bool] (.vs 9 9 (.cons (.w 172) .nil)) 248
(.br (.s 248)
(.next 1 .nil)
zlF))))
(.cut 2 248 []
(.br (.eq (.w 18) (.p 0))
(.call 1 [.bool] (.vs 18 9 (.cons (.w 173) .nil)) 248
(.br (.s 248)
(.next 2 .nil)
zlF))
(.br (.eq (.f .and .i64 (.f .shr .i64 (.w 182) (.p 2)) (.p 1)) (.p 0))
zlF
(.call 1 [.bool] (.vs 18 9 (.cons (.w 173) .nil)) 248
(.br (.s 248)
(.next 2 .nil)
zlF))))
(.cut 3 248 []
(.br (.eq (.w 27) (.p 0))
(.call 1 [.bool] (.vs 27 9 (.cons (.w 174) .nil)) 248
(.br (.s 248)
(.next 3 .nil)
zlF))
(.br (.eq (.f .and .i64 (.f .shr .i64 (.w 182) (.p 3)) (.p 1)) (.p 0))
zlF
(.call 1 [.bool] (.vs 27 9 (.cons (.w 174) .nil)) 248
(.br (.s 248)
(.next 3 .nil)
zlF))))
(.cut 4 248 []
(.br (.eq (.w 36) (.p 0))
(.call 1 [.bool] (.vs 36 9 (.cons (.w 175) .nil)) 248
(.br (.s 248)
(.next 4 .nil)
zlF))
(.br (.eq (.f .and .i64 (.f .shr .i64 (.w 182) (.p 4)) (.p 1)) (.p 0))
zlF
(.call 1 [.bool] (.vs 36 9 (.cons (.w 175) .nil)) 248
(.br (.s 248)
(.next 4 .nil)
zlF))))
(.cut 5 248 []
(.br (.eq (.w 45) (.p 0))
(.call 1 [.bool] (.vs 45 9 (.cons (.w 176) .nil)) 248
(.br (.s 248)
(.next 5 .nil)
zlF))
(.br (.eq (.f .and .i64 (.f .shr .i64 (.w 182) (.p 5)) (.p 1)) (.p 0))
zlF
(.call 1 [.bool] (.vs 45 9 (.cons (.w 176) .nil)) 248
(.br (.s 248)
(.next 5 .nil)
zlF))))
(.cut 6 248 []
(.br (.eq (.w 54) (.p 0))
(.call 1 [.bool] (.vs 54 9 (.cons (.w 177) .nil)) 248
(.br (.s 248)
(.next 6 .nil)
zlF))
(.br (.eq (.f .and .i64 (.f .shr .i64 (.w 182) (.p 6)) (.p 1)) (.p 0))
zlF
(.call 1 [.bool] (.vs 54 9 (.cons (.w 177) .nil)) 248
(.br (.s 248)
(.next 6 .nil)
zlF))))
(.cut 7 248 []
(.br (.eq (.w 63) (.p 0))
(.call 1 [.bool] (.vs 63 9 (.cons (.w 178) .nil)) 248
(.br (.s 248)
(.next 7 .nil)
zlF))
(.br (.eq (.f .and .i64 (.f .shr .i64 (.w 182) (.p 7)) (.p 1)) (.p 0))
zlF
(.call 1 [.bool] (.vs 63 9 (.cons (.w 178) .nil)) 248
(.br (.s 248)
(.next 7 .nil)
zlF))))
(.cut 8 248 []
(.br (.eq (.w 72) (.p 0))
(.call 1 [.bool] (.vs 72 9 (.cons (.w 179) .nil)) 248
(.br (.s 248)
(.next 8 .nil)
zlF))
(.br (.eq (.f .and .i64 (.f .shr .i64 (.w 182) (.p 8)) (.p 1)) (.p 0))
zlF
(.call 1 [.bool] (.vs 72 9 (.cons (.w 179) .nil)) 248
(.br (.s 248)
(.next 8 .nil)
zlF))))
(.cut 9 248 []
(.br (.eq (.w 81) (.p 0))
(.call 1 [.bool] (.vs 81 9 (.cons (.w 180) .nil)) 248
(.br (.s 248)
(.next 9 .nil)
zlF))
(.br (.eq (.f .and .i64 (.f .shr .i64 (.w 182) (.p 9)) (.p 1)) (.p 0))
zlF
(.call 1 [.bool] (.vs 81 9 (.cons (.w 180) .nil)) 248
(.br (.s 248)
(.next 9 .nil)
zlF))))
(.cut 10 248 []
(.br (.eq (.w 90) (.p 0))
(.call 1 [.bool] (.vs 90 9 (.cons (.w 181) .nil)) 248
(.br (.s 248)
(.next 10 .nil)
zlF))
(.br (.eq (.f .and .i64 (.f .shr .i64 (.w 182) (.p 10)) (.p 1)) (.p 0))
zlF
(.call 1 [.bool] (.vs 90 9 (.cons (.w 181) .nil)) 248
(.br (.s 248)
(.next 10 .nil)
zlF))))
(.call 1 [.bool] (.vs 99 9 (.cons (.f .or .u64 (.f .shl .u64 (.f .or .u64 (.f .shl .u64 (.f .or .u64 (.f .shl .u64 (.f .or .u64 (.f .shl .u64 (.f .or .u64 (.f .shl .u64 (.f .or .u64 (.f .shl .u64 (.f .or .u64 (.f .shl .u64 (.f .or .u64 (.p 0) (.F .u64 (.w 190))) (.p 8)) (.F .u64 (.w 189))) (.p 8)) (.F .u64 (.w 188))) (.p 8)) (.F .u64 (.w 187))) (.p 8)) (.F .u64 (.w 186))) (.p 8)) (.F .u64 (.w 185))) (.p 8)) (.F .u64 (.w 184))) (.p 8)) (.F .u64 (.w 183))) .nil)) 248
(.br (.s 248)
(.call 1 [.bool] (.vs 108 9 (.cons (.f .or .u64 (.f .shl .u64 (.f .or .u64 (.f .shl .u64 (.f .or .u64 (.f .shl .u64 (.f .or .u64 (.f .shl .u64 (.f .or .u64 (.f .shl .u64 (.f .or .u64 (.f .shl .u64 (.f .or .u64 (.f .shl .u64 (.f .or .u64 (.p 0) (.F .u64 (.w 198))) (.p 8)) (.F .u64 (.w 197))) (.p 8)) (.F .u64 (.w 196))) (.p 8)) (.F .u64 (.w 195))) (.p 8)) (.F .u64 (.w 194))) (.p 8)) (.F .u64 (.w 193))) (.p 8)) (.F .u64 (.w 192))) (.p 8)) (.F .u64 (.w 191))) .nil)) 249
(.br (.s 249)
(.call 1 [.bool] (.vs 117 9 (.cons (.f .or .u64 (.f .shl .u64 (.f .or .u64 (.f .shl .u64 (.f .or .u64 (.f .shl .u64 (.f .or .u64 (.f .shl .u64 (.f .or .u64 (.f .shl .u64 (.f .or .u64 (.f .shl .u64 (.f .or .u64 (.f .shl .u64 (.f .or .u64 (.p 0) (.F .u64 (.w 206))) (.p 8)) (.F .u64 (.w 205))) (.p 8)) (.F .u64 (.w 204))) (.p 8)) (.F .u64 (.w 203))) (.p 8)) (.F .u64 (.w 202))) (.p 8)) (.F .u64 (.w 201))) (.p 8)) (.F .u64 (.w 200))) (.p 8)) (.F .u64 (.w 199))) .nil)) 250
(.br (.s 250)
(.call 1 [.bool] (.vs 126 9 (.cons (.f .or .u64 (.f .shl .u64 (.f .or .u64 (.f .shl .u64 (.f .or .u64 (.f .shl .u64 (.f .or .u64 (.f .shl .u64 (.f .or .u64 (.f .shl .u64 (.f .or .u64 (.f .shl .u64 (.f .or .u64 (.f .shl .u64 (.f .or .u64 (.p 0) (.F .u64 (.w 214))) (.p 8)) (.F .u64 (.w 213))) (.p 8)) (.F .u64 (.w 212))) (.p 8)) (.F .u64 (.w 211))) (.p 8)) (.F .u64 (.w 210))) (.p 8)) (.F .u64 (.w 209))) (.p 8)) (.F .u64 (.w 208))) (.p 8)) (.F .u64 (.w 207))) .nil)) 251
(.br (.s 251)
(.call 1 [.bool] (.vs 135 9 (.cons (.f .or .u64 (.f .shl .u64 (.f .or .u64 (.f .shl .u64 (.f .or .u64 (.f .shl .u64 (.f .or .u64 (.f .shl .u64 (.f .or .u64 (.f .shl .u64 (.f .or .u64 (.f .shl .u64 (.f .or .u64 (.f .shl .u64 (.f .or .u64 (.p 0) (.F .u64 (.w 222))) (.p 8)) (.F .u64 (.w 221))) (.p 8)) (.F .u64 (.w 220))) (.p 8)) (.F .u64 (.w 219))) (.p 8)) (.F .u64 (.w 218))) (.p 8)) (.F .u64 (.w 217))) (.p 8)) (.F .u64 (.w 216))) (.p 8)) (.F .u64 (.w 215))) .nil)) 252
(.br (.s 252)
(.call 1 [.bool] (.vs 144 9 (.cons (.f .or .u64 (.f .shl .u64 (.f .or .u64 (.f .shl .u64 (.f .or .u64 (.f .shl .u64 (.f .or .u64 (.f .shl .u64 (.f .or .u64 (.f .shl .u64 (.f .or .u64 (.f .shl .u64 (.f .or .u64 (.f .shl .u64 (.f .or .u64 (.p 0) (.F .u64 (.w 230))) (.p 8)) (.F .u64 (.w 229))) (.p 8)) (.F .u64 (.w 228))) (.p 8)) (.F .u64 (.w 227))) (.p 8)) (.F .u64 (.w 226))) (.p 8)) (.F .u64 (.w 225))) (.p 8)) (.F .u64 (.w 224))) (.p 8)) (.F .u64 (.w 223))) .nil)) 253
(.br (.s 253)
(.call 1 [.bool] (.vs 153 9 (.cons (.f .or .u64 (.f .shl .u64 (.f .or .u64 (.f .shl .u64 (.f .or .u64 (.f .shl .u64 (.f .or .u64 (.f .shl .u64 (.f .or .u64 (.f .shl .u64 (.f .or .u64 (.f .shl .u64 (.f .or .u64 (.f .shl .u64 (.f .or .u64 (.p 0) (.F .u64 (.w 238))) (.p 8)) (.F .u64 (.w 237))) (.p 8)) (.F .u64 (.w 236))) (.p 8)) (.F .u64 (.w 235))) (.p 8)) (.F .u64 (.w 234))) (.p 8)) (.F .u64 (.w 233))) (.p 8)) (.F .u64 (.w 232))) (.p 8)) (.F .u64 (.w 231))) .nil)) 254
(.br (.s 254)
(.call 1 [.bool] (.vs 162 9 (.cons (.f .or .u64 (.f .shl .u64 (.f .or .u64 (.f .shl .u64 (.f .or .u64 (.f .shl .u64 (.f .or .u64 (.f .shl .u64 (.f .or .u64 (.f .shl .u64 (.f .or .u64 (.f .shl .u64 (.f .or .u64 (.f .shl .u64 (.f .or .u64 (.p 0) (.F .u64 (.w 246))) (.p 8)) (.F .u64 (.w 245))) (.p 8)) (.F .u64 (.w 244))) (.p 8)) (.F .u64 (.w 243))) (.p 8)) (.F .u64 (.w 242))) (.p 8)) (.F .u64 (.w 241))) (.p 8)) (.F .u64 (.w 240))) (.p 8)) (.F .u64 (.w 239))) .nil)) 255
(.br (.s 255)
zlT
zlF))
zlF))
zlF))
zlF))
zlF))
zlF))
zlF))
zlF)))))))))))))
zlF))
def apa:cb ael (Fq 0 [c_ymay,c_yhold]) [] [] [(5,[.top 16]++E2 [(4,1),(17,25)])] 400 Tryz.f10 c_yhas.a c_yhas.r (tp c_yhas.r) (v_Sta (v_Snap [])) ym:=E1 (by kernel_rfl)
def asL:c_yhas.Ok ZE:=
 GE ym (v_Sta (v_Snap [])) lW (Am asK<|Am aqa AI) Tryz.func10 E0 apa<|dS fun s hs=>abV fun x hx hp U g=>by
 have Aq:=g;simp only[c_yhas,bT,fq,mr,rdZ,rdB,rdL];simp only[bX,AE,cN,AA,Nat.reduceAdd]at g;simp(maxSteps:=10000000) only[ym,Kp,c_ymay,c_yhold,DG,rdZ,rdB,rdL,c_yhas,bX,AE,cN,Ai,Nat.reduceSub,Nat.reduceAdd,-eq_self,bF,g];obtain⟨_,_,_,_,_,_,_,_,_,_,_,_,VW,Uz,Ut,VD,T6,T9,Wr,Vd,UF,TK,Vx,UL,Vl,T8,Vn,V9,UO,TX,Uj,Uc,VZ,TJ,TQ,TS,Ve,US,Us,VY,UJ,Uq,TV,V7,TP,Ua,Ug,Ux,Wq,Wm,We,UD,Ww,Wx,Up,UU,Wk,Vh,UT,Ws,V2,TU,Ur,Wj,UG,UV,Va,Vy,V6,Vu,Vi,Um,Wl,UN,Uw,V1⟩:=hx;refine aG ?_;constructor<;>intro c0;refine⟨fun _=>rok x.set 0 s.r0 x.r0=ZB,?_,?_⟩;constructor<;>intro c1;refine aG ?_;constructor<;>intro c2
 .exact gD c1 c2
 .simp only[Ar,ce (set:=x.set) (i:=0) c2,aq,ap]
 constructor<;>intro c3
 .simp only[Ar,gC (i:=0) (v:=x.r0) c1 (show A4 x.set 0=ZC by unfold A4;have h:=c3;rw[bB]at h;simpa using h),aq,ap]
 refine aG ?_;constructor<;>intro c4
 .exact gB (show A4 x.set 0=ZB by unfold A4;have h:=c3;rw[bB]at h;simpa using h) c4
 .simp only[Ar,ce (set:=x.set) (i:=0) c4,aq,ap]
 intro U0 K7 _ hi0;have Fj:=(aW K7 _ 0 ST).trans Aq;have g0:=Fj;simp only[bX,AE,cN,AA,Nat.reduceAdd]at g0;simp only[g0,-eq_self];refine⟨fun _=>rok x.set 1 s.r1 x.r1=ZB,?_,?_⟩;constructor<;>intro c5;refine aG ?_;constructor<;>intro c6
 .exact gD c5 c6
 .simp only[Ar,ce (set:=x.set) (i:=1) c6,aq,ap]
 constructor<;>intro c7
 .simp only[Ar,gC (i:=1) (v:=x.r1) c5 (show A4 x.set 1=ZC by unfold A4;have h:=c7;rw[bB]at h;simpa using h),aq,ap]
 refine aG ?_;constructor<;>intro c8
 .exact gB (show A4 x.set 1=ZB by unfold A4;have h:=c7;rw[bB]at h;simpa using h) c8
 .simp only[Ar,ce (set:=x.set) (i:=1) c8,aq,ap]
 intro U1 AY _ Ba;have Ak:=(aW AY _ 0 ST).trans Fj;have g1:=Ak;simp only[bX,AE,cN,AA,Nat.reduceAdd]at g1;simp only[g1,-eq_self];refine⟨fun _=>rok x.set 2 s.r2 x.r2=ZB,?_,?_⟩;constructor<;>intro c9;refine aG ?_;constructor<;>intro BF
 .exact gD c9 BF
 .simp only[Ar,ce (set:=x.set) (i:=2) BF,aq,ap]
 constructor<;>intro CD
 .simp only[Ar,gC (i:=2) (v:=x.r2) c9 (show A4 x.set 2=ZC by unfold A4;have h:=CD;rw[bB]at h;simpa using h),aq,ap]
 refine aG ?_;constructor<;>intro B9
 .exact gB (show A4 x.set 2=ZB by unfold A4;have h:=CD;rw[bB]at h;simpa using h) B9
 .simp only[Ar,ce (set:=x.set) (i:=2) B9,aq,ap]
 intro U2 Cf _ Gv;have Fk:=(aW Cf _ 0 ST).trans Ak;have g2:=Fk;simp only[bX,AE,cN,AA,Nat.reduceAdd]at g2;simp only[g2,-eq_self];refine⟨fun _=>rok x.set 3 s.r3 x.r3=ZB,?_,?_⟩;constructor<;>intro Cq;refine aG ?_;constructor<;>intro CF
 .exact gD Cq CF
 .simp only[Ar,ce (set:=x.set) (i:=3) CF,aq,ap]
 constructor<;>intro C3
 .simp only[Ar,gC (i:=3) (v:=x.r3) Cq (show A4 x.set 3=ZC by unfold A4;have h:=C3;rw[bB]at h;simpa using h),aq,ap]
 refine aG ?_;constructor<;>intro Dk
 .exact gB (show A4 x.set 3=ZB by unfold A4;have h:=C3;rw[bB]at h;simpa using h) Dk
 .simp only[Ar,ce (set:=x.set) (i:=3) Dk,aq,ap]
 intro U3 Bd _ IH;have Fe:=(aW Bd _ 0 ST).trans Fk;have g3:=Fe;simp only[bX,AE,cN,AA,Nat.reduceAdd]at g3;simp only[g3,-eq_self];refine⟨fun _=>rok x.set 4 s.r4 x.r4=ZB,?_,?_⟩;constructor<;>intro Df;refine aG ?_;constructor<;>intro Dg
 .exact gD Df Dg
 .simp only[Ar,ce (set:=x.set) (i:=4) Dg,aq,ap]
 constructor<;>intro DA
 .simp only[Ar,gC (i:=4) (v:=x.r4) Df (show A4 x.set 4=ZC by unfold A4;have h:=DA;rw[bB]at h;simpa using h),aq,ap]
 refine aG ?_;constructor<;>intro Dz
 .exact gB (show A4 x.set 4=ZB by unfold A4;have h:=DA;rw[bB]at h;simpa using h) Dz
 .simp only[Ar,ce (set:=x.set) (i:=4) Dz,aq,ap]
 intro U4 MG _ P1;have FK:=(aW MG _ 0 ST).trans Fe;have g4:=FK;simp only[bX,AE,cN,AA,Nat.reduceAdd]at g4;simp only[g4,-eq_self];refine⟨fun _=>rok x.set 5 s.r5 x.r5=ZB,?_,?_⟩;constructor<;>intro EN;refine aG ?_;constructor<;>intro FZ
 .exact gD EN FZ
 .simp only[Ar,ce (set:=x.set) (i:=5) FZ,aq,ap]
 constructor<;>intro Hk
 .simp only[Ar,gC (i:=5) (v:=x.r5) EN (show A4 x.set 5=ZC by unfold A4;have h:=Hk;rw[bB]at h;simpa using h),aq,ap]
 refine aG ?_;constructor<;>intro H9
 .exact gB (show A4 x.set 5=ZB by unfold A4;have h:=Hk;rw[bB]at h;simpa using h) H9
 .simp only[Ar,ce (set:=x.set) (i:=5) H9,aq,ap]
 intro U5 Mn _ Sx;have FP:=(aW Mn _ 0 ST).trans FK;have g5:=FP;simp only[bX,AE,cN,AA,Nat.reduceAdd]at g5;simp only[g5,-eq_self];refine⟨fun _=>rok x.set 6 s.r6 x.r6=ZB,?_,?_⟩;constructor<;>intro Gq;refine aG ?_;constructor<;>intro JX
 .exact gD Gq JX
 .simp only[Ar,ce (set:=x.set) (i:=6) JX,aq,ap]
 constructor<;>intro Ix
 .simp only[Ar,gC (i:=6) (v:=x.r6) Gq (show A4 x.set 6=ZC by unfold A4;have h:=Ix;rw[bB]at h;simpa using h),aq,ap]
 refine aG ?_;constructor<;>intro Je
 .exact gB (show A4 x.set 6=ZB by unfold A4;have h:=Ix;rw[bB]at h;simpa using h) Je
 .simp only[Ar,ce (set:=x.set) (i:=6) Je,aq,ap]
 intro U6 LH _ Ql;have FA:=(aW LH _ 0 ST).trans FP;have g6:=FA;simp only[bX,AE,cN,AA,Nat.reduceAdd]at g6;simp only[g6,-eq_self];refine⟨fun _=>rok x.set 7 s.r7 x.r7=ZB,?_,?_⟩;constructor<;>intro Kd;refine aG ?_;constructor<;>intro Ku
 .exact gD Kd Ku
 .simp only[Ar,ce (set:=x.set) (i:=7) Ku,aq,ap]
 constructor<;>intro Kq
 .simp only[Ar,gC (i:=7) (v:=x.r7) Kd (show A4 x.set 7=ZC by unfold A4;have h:=Kq;rw[bB]at h;simpa using h),aq,ap]
 refine aG ?_;constructor<;>intro JW
 .exact gB (show A4 x.set 7=ZB by unfold A4;have h:=Kq;rw[bB]at h;simpa using h) JW
 .simp only[Ar,ce (set:=x.set) (i:=7) JW,aq,ap]
 intro U7 Ls _ RQ;have FE:=(aW Ls _ 0 ST).trans FA;have g7:=FE;simp only[bX,AE,cN,AA,Nat.reduceAdd]at g7;simp only[g7,-eq_self];refine⟨fun _=>rok x.set 8 s.r8 x.r8=ZB,?_,?_⟩;constructor<;>intro La;refine aG ?_;constructor<;>intro KG
 .exact gD La KG
 .simp only[Ar,ce (set:=x.set) (i:=8) KG,aq,ap]
 constructor<;>intro LD
 .simp only[Ar,gC (i:=8) (v:=x.r8) La (show A4 x.set 8=ZC by unfold A4;have h:=LD;rw[bB]at h;simpa using h),aq,ap]
 refine aG ?_;constructor<;>intro LK
 .exact gB (show A4 x.set 8=ZB by unfold A4;have h:=LD;rw[bB]at h;simpa using h) LK
 .simp only[Ar,ce (set:=x.set) (i:=8) LK,aq,ap]
 intro U8 ha8 _ hi8;have FJ:=(aW ha8 _ 0 ST).trans FE;have g8:=FJ;simp only[bX,AE,cN,AA,Nat.reduceAdd]at g8;simp only[g8,-eq_self];refine⟨fun _=>rok x.set 9 s.r9 x.r9=ZB,?_,?_⟩;constructor<;>intro Kk;refine aG ?_;constructor<;>intro LG
 .exact gD Kk LG
 .simp only[Ar,ce (set:=x.set) (i:=9) LG,aq,ap]
 constructor<;>intro LA
 .simp only[Ar,gC (i:=9) (v:=x.r9) Kk (show A4 x.set 9=ZC by unfold A4;have h:=LA;rw[bB]at h;simpa using h),aq,ap]
 refine aG ?_;constructor<;>intro KY
 .exact gB (show A4 x.set 9=ZB by unfold A4;have h:=LA;rw[bB]at h;simpa using h) KY
 .simp only[Ar,ce (set:=x.set) (i:=9) KY,aq,ap]
 intro U9 ha9 _ hi9;have Fs:=(aW ha9 _ 0 ST).trans FJ;have g9:=Fs;simp only[bX,AE,cN,AA,Nat.reduceAdd]at g9;simp only[g9,-eq_self];refine⟨fun _=>rok x.set 10 s.r10 x.r10=ZB,?_,?_⟩;constructor<;>intro KZ;refine aG ?_;constructor<;>intro Kj
 .exact gD KZ Kj
 .simp only[Ar,ce (set:=x.set) (i:=10) Kj,aq,ap]
 constructor<;>intro JN
 .simp only[Ar,gC (i:=10) (v:=x.r10) KZ (show A4 x.set 10=ZC by unfold A4;have h:=JN;rw[bB]at h;simpa using h),aq,ap]
 refine aG ?_;constructor<;>intro LF
 .exact gB (show A4 x.set 10=ZB by unfold A4;have h:=JN;rw[bB]at h;simpa using h) LF
 .simp only[Ar,ce (set:=x.set) (i:=10) LF,aq,ap]
 intro U10 N9 _ N3;have Hj:=(aW N9 _ 0 ST).trans Fs;have Td:=Hj;simp only[bX,AE,cN,AA,Nat.reduceAdd]at Td;simp only[Td,-eq_self];refine aG ?_;constructor<;>intro Kf;refine aG ?_;constructor<;>intro H7;refine aG ?_;constructor<;>intro Ki;refine aG ?_;constructor<;>intro Kt;refine aG ?_;constructor<;>intro Kh;refine aG ?_;constructor<;>intro Kv;refine aG ?_;constructor<;>intro Ka;refine aG ?_;constructor<;>intro Jy
 .rw[Aw Vd,Aw Wr,Aw T9,Aw T6,Aw VD,Aw Ut,Aw Uz,Aw VW,dz VW Uz Ut VD T6 T9 Wr Vd]at Kf;rw[Aw V9,Aw Vn,Aw T8,Aw Vl,Aw UL,Aw Vx,Aw TK,Aw UF,dz UF TK Vx UL Vl T8 Vn V9]at H7;rw[Aw TS,Aw TQ,Aw TJ,Aw VZ,Aw Uc,Aw Uj,Aw TX,Aw UO,dz UO TX Uj Uc VZ TJ TQ TS]at Ki;rw[Aw V7,Aw TV,Aw Uq,Aw UJ,Aw VY,Aw Us,Aw US,Aw Ve,dz Ve US Us VY UJ Uq TV V7]at Kt;rw[Aw UD,Aw We,Aw Wm,Aw Wq,Aw Ux,Aw Ug,Aw Ua,Aw TP,dz TP Ua Ug Ux Wq Wm We UD]at Kh;rw[Aw Ws,Aw UT,Aw Vh,Aw Wk,Aw UU,Aw Up,Aw Wx,Aw Ww,dz Ww Wx Up UU Wk Vh UT Ws]at Kv;rw[Aw Vy,Aw Va,Aw UV,Aw UG,Aw Wj,Aw Ur,Aw TU,Aw V2,dz V2 TU Ur Wj UG UV Va Vy]at Ka;rw[Aw V1,Aw Uw,Aw UN,Aw Wl,Aw Um,Aw Vi,Aw Vu,Aw V6,dz V6 Vu Vi Um Wl UN Uw V1]at Jy;simp only[Ar,aZ,c0,Kf,H7,Ki,Kt,Kh,Kv,Ka,Jy,hi0,Ba,Gv,IH,P1,Sx,Ql,RQ,hi8,hi9,N3,Bool.and_true,Bool.true_and]
 .rw[Aw V1,Aw Uw,Aw UN,Aw Wl,Aw Um,Aw Vi,Aw Vu,Aw V6,dz V6 Vu Vi Um Wl UN Uw V1]at Jy;simp only[Ar,aZ,Jy,aq,ap]
 .rw[Aw Vy,Aw Va,Aw UV,Aw UG,Aw Wj,Aw Ur,Aw TU,Aw V2,dz V2 TU Ur Wj UG UV Va Vy]at Ka;simp only[Ar,aZ,Ka,aq,ap]
 .rw[Aw Ws,Aw UT,Aw Vh,Aw Wk,Aw UU,Aw Up,Aw Wx,Aw Ww,dz Ww Wx Up UU Wk Vh UT Ws]at Kv;simp only[Ar,aZ,Kv,aq,ap]
 .rw[Aw UD,Aw We,Aw Wm,Aw Wq,Aw Ux,Aw Ug,Aw Ua,Aw TP,dz TP Ua Ug Ux Wq Wm We UD]at Kh;simp only[Ar,aZ,Kh,aq,ap]
 .rw[Aw V7,Aw TV,Aw Uq,Aw UJ,Aw VY,Aw Us,Aw US,Aw Ve,dz Ve US Us VY UJ Uq TV V7]at Kt;simp only[Ar,aZ,Kt,aq,ap]
 .rw[Aw TS,Aw TQ,Aw TJ,Aw VZ,Aw Uc,Aw Uj,Aw TX,Aw UO,dz UO TX Uj Uc VZ TJ TQ TS]at Ki;simp only[Ar,aZ,Ki,aq,ap]
 .rw[Aw V9,Aw Vn,Aw T8,Aw Vl,Aw UL,Aw Vx,Aw TK,Aw UF,dz UF TK Vx UL Vl T8 Vn V9]at H7;simp only[Ar,aZ,H7,aq,ap]
 .rw[Aw Vd,Aw Wr,Aw T9,Aw T6,Aw VD,Aw Ut,Aw Uz,Aw VW,dz VW Uz Ut VD T6 T9 Wr Vd]at Kf;simp only[Ar,aZ,Kf,aq,ap]
 .simp only[Ar,c0,aq]
def acG{P:Program}{t e:TypeId}{ks:List CE}(r:Rw P e ks)(Ee:0<ks.length)(ht:P.underlying t=ZA (.slice e)){enc:TypeId×Value->H}{hd:Bool}{v:Value}{fuel:Nat}{x:DataW H×List MemPlace}(hf:DataW.trod enc P W 0 (fun _=>ZB) hd fuel t [v]=ZA x):∃L s,v=s.v/\s.n=L.length/\RdRow W ks.length s (flat ks L)/\RowsIn ks L/\∀k,s.blk ZC=ZA k->k<W.heap.size:=by
 obtain⟨a0,HI,JQ,CT⟩:=Go.Joins.slice_form ht hf;obtain rfl:v=.slice a0 HI JQ:=by simpa using CT
 rcases Go.Deep.open_slice ht hf with⟨h1,_⟩|⟨a,len,Hu,m,n,D,Pl,h1,_,hl,hm,hmm,_,O1⟩
 .simp only[Be,Value.slice.injEq,and_true]at h1;obtain⟨rfl,rfl,rfl⟩:=h1;exact⟨[],⟨ZD,0,0,[]⟩,rfl,rfl,⟨by simp[flat],ZI _,by simp[maxLen],fun _=>⟨rfl,rfl⟩,fun a ha=>(by cases ha)⟩,⟨fun r hr=>(by cases hr),by simp⟩,fun k hk=>by have:=aA hk;cases this⟩
 .simp only[Be,Value.slice.injEq,and_true]at h1;obtain⟨rfl,rfl,rfl⟩:=h1;have hmc:m=JQ:=by rw[hmm];rfl
  subst hmc;rw[r.cells]at O1;have key:∀i,i<HI->∃x,W.cells? 0 (a.add (i*ks.length)) ks.length=ZA (Bj ks x)/\av ks x=ZB:=fun i hi=>by obtain⟨Gz,h1,h2⟩:=O1 i Fn;obtain⟨x,hx,Ga⟩:=r.opn h2;exact⟨x,by rw[<-hx];exact h1,Ga⟩
  obtain⟨L,hL,hq⟩:=abA key;have AV:∀x∈L,av ks x=ZB:=fun x hx=>by obtain⟨i,hi,he⟩:=List.getElem_of_mem hx;exact(hq i x (by rw[AG hi,he])).2
  refine⟨L,⟨ZA a,HI,m,[]⟩,rfl,hL.symm,⟨?_,hl,hm,fun ha=>(by cases ha),fun a' CZ i u hu=> ?_⟩,⟨AV,by rw[hL];exact cX hl hm⟩,fun k hk=> ?_⟩
  .rw[bP AV,hL]
  .cases CZ;have As:i<(flat ks L).length:=(cZ.1 hu).1;rw[bP AV]at As;have hi:i / ks.length<L.length:=Nat.div_lt_of_lt_mul (by rw[Nat.mul_comm];exact As);have hc:i % ks.length<ks.length:=Nat.mod_lt _ Ee;have e1:i=i / ks.length*ks.length+i % ks.length:=by rw[Nat.mul_comm];exact(Nat.div_add_mod _ _).symm
   rw[e1,mJ (AG hc) AV hi]at hu;obtain⟨q1,q2⟩:=hq (i / ks.length) L[i / ks.length] (AG hi);obtain⟨_,A3,Dx⟩:=World.cells?_some q1;have h3:=Dx (i % ks.length) hc;rw[oE q2 (AG hc)]at h3;have hg:L.getD (i / ks.length) []=L[i / ks.length]:=by rw[bV,AG hi];rfl
   rw[hg]at hu;rw[e1,<-bU,h3];exact hu
  .have hc:m≠0:=fun hc=>by
    unfold SV.blk at hk;simp[hc]at hk
   obtain⟨Gz,h1,h2⟩:=O1 0 Fn;have h4:=acb h1 Ee;have h5:=aA hk;simp only[SV.v,Value.ownBlock,bv]at h5;rw[<-h5];have:(a.add (0*ks.length)).block=a.block:=YI;rw[<-this];exact h4.1
def JO:Rw ZE 38 [ZA .i8]:=Rw.int .i8 Tryz.underlying38 (by kernel_rfl)
def rwI64:Rw ZE 3 [ZA .i64]:=Rw.int .i64 Tryz.underlying3 (by kernel_rfl)
def rwBo:Rw ZE 4 [ZD]:=Rw.bool Tryz.underlying4 (by kernel_rfl)
def auK:Rw ZE 66 [ZA .i8,ZA .i8,ZA .i8,ZA .i8,ZD,ZA .i8,ZA .i8,ZA .i64,ZA .i64]:=by refine Rw.struct (ks:=[ZA .i8,ZA .i8,ZA .i8,ZA .i8,ZD,ZA .i8,ZA .i8,ZA .i64,ZA .i64]) ?_ Tryz.underlying66 (by kernel_rfl);exact(RwSeq.cons (ks:=[ZA .i8]) JO (by rfl) (RwSeq.cons (ks:=[ZA .i8]) JO (by rfl) (RwSeq.cons (ks:=[ZA .i8]) JO (by rfl) (RwSeq.cons (ks:=[ZA .i8]) JO (by rfl) (RwSeq.cons (ks:=[ZD]) rwBo (by rfl) (RwSeq.cons (ks:=[ZA .i8]) JO (by rfl) (RwSeq.cons (ks:=[ZA .i8]) JO (by rfl) (RwSeq.cons (ks:=[ZA .i64]) rwI64 (by rfl) (RwSeq.cons (ks:=[ZA .i64]) rwI64 (by rfl) (RwSeq.nil _ _))))))))))
def Prog.of_arg{enc:TypeId×Value->H}{hd:Bool}{v:Value}{d:DataW H}{p:List MemPlace}{rc:Reach}{b0:Nat}(hv:Value.okWide ZE W rc b0 24 v)(h:DataW.Trod enc ZE W 0 (fun _=>ZB) hd 24 v d p):∃(c:Int) (L:List (List Int)) (s:_),v=.agg #[.int .i64 c,SV.v s]/\Ae .i64 c=ZB/\s.n=L.length/\RdRow W 9 s (flat [ZA .i8,ZA .i8,ZA .i8,ZA .i8,ZD,ZA .i8,ZA .i8,ZA .i64,ZA .i64] L)/\RowsIn [ZA .i8,ZA .i8,ZA .i8,ZA .i8,ZD,ZA .i8,ZA .i8,ZA .i64,ZA .i64] L/\∀k,s.blk ZC=ZA k->k<W.heap.size:=by
 obtain⟨v0,v1,y0,y1,n,rfl,_,_,h0,h1⟩:=Go.Joins.open_agg2 Tryz.underlying24 (by kernel_rfl) (by kernel_rfl) hv h;obtain⟨q,e0,hq⟩:=rwI64.opn h0;obtain⟨L,s,rfl,h2,h3,h4,h5⟩:=acG auK ST Tryz.underlying22 h1;obtain⟨c,q,rfl,hc,hq⟩:=acP hq;obtain rfl:=agy hq;simp only[Bj,Be,and_true]at e0;exact⟨c,L,s,by rw[e0];rfl,hc,h2,h3,h4,h5⟩
def aej:List (Nat×TI):=[(2,CB),
 (3,CX),
 (4,Ez),
 (5,KQ),
 (22,vd),
 (24,vb),
 (25,aoJ),
 (26,aoI),
 (29,UQ),
 (30,UZ),
 (32,V3),
 (33,Qx),
 (36,Wi),
 (37,arJ),
 (38,fT),
 (39,eX),
 (40,WH),
 (42,arI),
 (46,gZ),
 (48,jl),
 (50,eM),
 (52,qS),
 (53,qR),
 (54,qQ),
 (56,zY),
 (60,RR),
 (61,Q5),
 (63,Sn),
 (66,qP),
 (178,aeE)]
def aea:∀t i,(t,i)∈aej->TIok ZE t i:=bi (DU (z:=Ec) ⟨ra,lh⟩<|DU (z:=Dv) ⟨qZ,lg⟩<|DU (z:=P8) ⟨am9,aib⟩<|DU (z:=lQ) ⟨lj,ig⟩ B1) B1 (by kernel_rfl)
def acK(p:Prog)(cx:LL)(an:LL)(fu:Int):List Dt:=[.z (AD ZB)]
def kC:List Dt->List Dt
 |[.z x0,.l x1,.l x2,.l x3,.z x4]=>acK ⟨x0,x1⟩ x2 x3 x4
 |_=>[]
def nr:Tr:=
(.cut 0 5 [.bool]
(.call 0 [.bool] (.cons (.w 0) (.N (.g 1) .nil)) 5
(.br (.s 5)
(.next 0 (.j (.tt ZB) .nil))
(.br (.lt (.p 256) (.len (.g 2)))
(.next 0 (.j (.tt ZB) .nil))
(.br (.lt (.p 100) (.len (.g 3)))
(.next 0 (.j (.tt ZB) .nil))
(.br (.lt (.w 4) (.p 0))
(.next 0 (.j (.tt ZB) .nil))
(.next 0 (.j (.lt (.p 2000) (.w 4)) .nil)))))))
(.br (.s 5)
(.call 1 [.bool] .nil 6
(.u (.j (.s 6) .nil)))
(.call 2 ([.sl [ZD] 4,.sl ED 56]++[.int .i64]++[.int .i64]) (.cons (.w 0) (.N (.g 1) .nil)) 6
(.br (.eq (.w 9) (.p 0))
(.br (.eq (.len (.g 2)) (.w 0))
(.call 3 ([.sl [ZA .i64] 3]++[.sl L5 63]++kOut++[.int .i64]) (.cons (.w 0) (.N (.g 1) (.N (.g 2) (.N (.g 3) (.cons (.w 4) .nil))))) 10
(.br (.eq (.w 17) (.p 0))
(.br (.eq (.w 12) (.p 3))
zlF
(.br (.eq (.len (.g 10)) (.len (.g 11)))
(.loop 1 18 [.int .i64] (.cons (.p 0) .nil)
(.br (.lt (.w 18) (.len (.g 11)))
(.br (.lt (.w 18) (.p 0))
.panic
(.br (.lt (.w 18) (.len (.g 10)))
(.call 4 (kSta++[.bool]) (.N (.g 6) (.N (.g 7) (.cons (.get (.g 10) (.w 18) 0) .nil))) 19
(.br (.s 190)
(.call 5 [.bool] (.vs 19 171 (.gs (.g 11) (.w 18) 0 76 .nil)) 191
(.br (.s 191)
(.call 6 [.bool] (.vs 19 171 (.gs (.g 11) (.w 18) 0 76 .nil)) 192
(.br (.s 192)
(.next 1 (.cons (.f .add .i64 (.w 18) (.p 1)) .nil))
zlF))
zlF))
zlF))
.panic))
(.call 1 [.bool] .nil 19
(.u (.j (.s 19) .nil)))))
zlF))
zlF))
(.call 1 [.bool] .nil 10
(.u (.j (.s 10) .nil))))
(.call 1 [.bool] .nil 10
(.u (.j (.s 10) .nil)))))))
def sP_lvsound:Spec:={F:=fun k=>match k with|0=>c_lgreat.F|1=>yA|2=>tI|3=>c_jsnaps.F|4=>c_vat.F|5=>c_thas.F|6=>c_yhas.F|_=>fun _=>[],pre:=fun k=>match k with|0=>jI|2=>pI|3=>jJ|4=>UX|_=>fun _=>True,hw:=Jt,hx:=VF,hi:=Wt}
def acL:cb aej [c_lgreat.m 0,yx 1,tH 2,c_jsnaps.m 3,c_vat.m 4,c_thas.m 5,c_yhas.m 6] [] [(10,[.tmpI 82 .i64]++E2 [(8,1),(16,3),(83,32)]),(999999,[])] [(2,[.tmpB 38]++E2 [(19,19)])] 200 Tryz.f3 [.agg kProg,.one (.sl [ZA .u8] 5),.one (.sl [ZA .u64] 39),.one (.int .i64)] [.one .bool] ZC (v_Prog [.list [ZA .u8],.list [ZA .u64],.int .i64]) nr:=E1 (by kernel_rfl)
def aoY(g:Nat->Int):Snap:=⟨g 0,g 1,g 2,g 3,g 4,g 5,g 6,g 7,g 8,g 9,g 10,g 11,g 12,g 13,g 14,g 15,g 16,g 17,g 18,g 19,g 20,g 21,g 22,g 23,g 24,g 25,g 26,g 27,g 28,g 29,g 30,g 31,g 32,g 33,g 34,g 35,g 36,g 37,g 38,g 39,g 40,g 41,g 42,g 43,g 44,g 45,g 46,g 47,g 48,g 49,g 50,g 51,g 52,g 53,g 54,g 55,g 56,g 57,g 58,g 59,g 60,g 61,g 62,g 63,g 64,g 65,g 66,g 67,g 68,g 69,g 70,g 71,g 72,g 73,g 74,g 75⟩
def aup(U:Env)(l i t:E):(E.gs l i 0 76 t).D U=d_Snap (aoY (gt (l.R U) (i.I U))) (t.D U):=by kernel_rfl
def aoX{L:LL}{p:Prog}{m:Ms}(W:WM p m)(h:L[n]? =ZA (gJ m)):aoY (gt L (n:Int))=dx m:=by
 have e:gt L (n:Int)=fun c=>(gJ m).getD c 0:=by funext c;unfold gt;rw[cS,show L.getD n []=gJ m from by rw[bV,h];rfl]
 rw[e,aff W.rl W.fl];rfl
def wx{p:Prog}:∀(f:Nat) (m:Ms),(ez p f m).length<=f
 |0,m=>ZI _
 |f+1,m=>by
   unfold ez;split
   .rw[List.length_cons];have:=wx (p:=p) f (DD p m);omega
   .simp
def apn{p:Prog}{cx an:LL}{fu:Int}(hl:p.l.length<=maxLen)(h:(AC p).2.2.2=0)(hc:RowsIn [ZA .u8] cx)(ha:RowsIn [ZA .u64] an)(C0:(cx.length:Int)=p.ctx)(h0:0<=fu)(h1:fu<=2000):
  (Cm p cx an fu).2=0/\(Cm p cx an fu).1.kind≠3/\(cQ p cx an fu).1.length=(cQ p cx an fu).2.length/\(cQ p cx an fu).2.length<=maxLen/\∀n:Nat,n<(cQ p cx an fu).2.length->∃m,GM p m/\gt (cQ p cx an fu).1 (n:Int) 0=m.pc/\aoY (gt (cQ p cx an fu).2 (n:Int))=dx m:=by
 have ho:jV p cx fu=0:=agY (xL hl h).1 C0 h0 Fn;have g:=alf hl h hc ha C0;have er:Cm p cx an fu=(ar8 (exec p fu.toNat (GD cx an)),0):=by unfold Cm;rw[if_neg (by simp[ho])]
 have ej:cQ p cx an fu=(V4 (ez p fu.toNat (GD cx an)),mc p fu.toNat (GD cx an)):=by unfold cQ;rw[if_neg (by simp[ho])]
 rw[er,ej];have hp:=wx (p:=p) fu.toNat (GD cx an);have hs:=vA (p:=p) fu.toNat (GD cx an);refine⟨rfl,se hl h _ _ g,(List.length_map _).trans hs.symm,?_,fun n hn=> ?_⟩
 .show(mc p fu.toNat (GD cx an)).length<=_;unfold maxLen;omega
 .obtain⟨m,gm,e1,e2⟩:=pu hl h fu.toNat _ g n (by rw[<-hs];exact hn);refine⟨m,gm,?_,aoX gm.wm e2⟩;show((List.map (fun i=>[i]) (ez p fu.toNat (GD cx an))).getD ((n:Nat):Int).toNat []).getD 0 0=_;rw[cS,show(List.map (fun i=>[i]) (ez p fu.toNat (GD cx an))).getD n []=[m.pc]from by rw[bV,jn,e1];rfl];rfl
def asz(h:U.b n=ZB):(E.j (.s n) .nil).D U=[.z (AD ZB)]:=by show[Dt.z (AD (U.b n))]=_;rw[h]
def auh(sn st:LL)(i:Int):c_vat.F [.l sn,.l st,.z i]=d_Sta (Ia sn st i) [.z (AD (Es sn st i))]:=aui ⟨sn,st⟩ i
def auk(s:Sta)(x:Snap):c_thas.F (d_Sta s (d_Snap x []))=[.z (AD (Ar s x))]:=by simp only[c_thas,bT,mr]
def aud(s:Sta)(x:Snap):c_yhas.F (d_Sta s (d_Snap x []))=[.z (AD (Ar s x))]:=by simp only[c_yhas,bT,mr]
def Xb(p:Prog)(cx an:LL)(fu:Int):c_jsnaps.F (d_Prog p [.l cx,.l an,.z fu])=.l (cQ p cx an fu).1::.l (cQ p cx an fu).2::d_Out (Cm p cx an fu).1 [.z (Cm p cx an fu).2]:=by simp only[c_jsnaps,wu,rdL,rdZ]
def Sk:List CK->Nat->Bool
 |.bool::_,0=>ZB
 |.int _::ks,m+1=>Sk ks m
 |_,_=>ZC
def ab0{ds:List Dt}{v0:Nat}:∀(ks:List CK) (n m:Nat),Sk ks m=ZB->eqs U ds v0 n ks->U.b (v0+(n+m))=dB ds (n+m)
 |.bool::ks,n,0,_,h=>h.1
 |.int k::ks,n,m+1,hk,h=>by have:=ab0 ks (n+1) m hk h.2;rw[show n+(m+1)=n+1+m by omega];exact this
def atJ{S:Sta}{b:Bool}{v0:Nat}(h:eqs U (d_Sta S [.z (AD b)]) v0 0 (kSta++[.bool])):U.b (v0+171)=b:=by have e:U.b (v0+171)=dB (d_Sta S [.z (AD b)]) 171:=ab0 _ 0 171 XZ h;exact e.trans (ov b)
def acJ(p:Prog)(hp:Prog.ok p)(cx:LL)(Qg:RowsIn [ZA .u8] cx)(an:LL)(han:RowsIn [ZA .u64] an)(fu:Int)(hfu:Ae .i64 fu=ZB):Cn nr sP_lvsound (v_Prog [.list [ZA .u8],.list [ZA .u64],.int .i64]) (d_Prog p [.l cx,.l an,.z fu]) kC:=by
 intro U g;have hl:p.l.length<=maxLen:=hp.2.len;have hF:kC (d_Prog p [.l cx,.l an,.z fu])=[.z (AD ZB)]:=by simp only[kC,wu,rdL,rdZ];rfl
 rw[hF];have g':Dt.z (U.i 0)::.l (U.l 1)::.l (U.l 2)::.l (U.l 3)::[.z (U.i 4)]=.z p.ctx::.l p.l::.l cx::.l an::[.z fu]:=g;simp only[Be,Dt.z.injEq,Dt.l.injEq,and_true]at g';obtain⟨g0,g1,g2,g3,g4⟩:=g';clear g;have wk:∀{U:Env} {I:Nat->List Dt->Prop} {n:Nat},(Tr.call 1 [.bool] .nil n (.u (.j (.s n) .nil))).asks sP_lvsound (fun U e=>e.D U=[.z (AD ZB)]) U I:=fun {U I n}=>az (xs:=[]) rfl trivial (fun e=>asz (e.1.trans rfl))
 have inv:∀{U1:Env} {P:List Dt->Prop} {e:E} {b:Bool},e.B U1=b->P [.z (AD b)]->P ((E.j e .nil).D U1):=fun {U1 P e b} he h=>by show P [Dt.z (AD (e.B U1))];rw[he];exact h
 unfold nr;refine⟨fun ds=>∃b:Bool,ds=[.z (AD b)]/\(b=ZC->cx.length<=256/\an.length<=100/\0<=fu/\fu<=2000),?_,?_⟩
 .refine az (xs:=[.z p.ctx,.l p.l]) (by simp only[E.D,E.I,E.R,g0,g1]) hl (fun _=> ?_);have tr:(Tr.next 0 (.j (.tt ZB) .nil)).asks sP_lvsound (fun U e=>e.D U=[.z (AD ZB)]) U (HD (fun _ _=>False) 0 fun ds=>∃b:Bool,ds=[.z (AD b)]/\(b=ZC->cx.length<=256/\an.length<=100/\0<=fu/\fu<=2000)):=
   aY ⟨ZB,rfl,fun h=>by cases h⟩
  refine⟨fun _=>tr,fun _=>⟨fun _=>tr,fun c1=>⟨fun _=>tr,fun c2=>⟨fun _=>tr,fun c3=>aY ⟨_,rfl,fun c4=> ?_⟩⟩⟩⟩⟩;simp only[E.B,E.I,E.R,g2,g3,g4]at c1 c2 c3 c4;have:=Ab c1;have:=Ab c2;have:=Ab c3;have:=Ab c4;omega
 intro U1 AY _ Ba;obtain⟨b,Bq,hb⟩:=Ba;have b5:U1.b 5=b:=by have:[Dt.z (AD (U1.b 5))]=[.z (AD b)]:=Bq;simp only[Be,Dt.z.injEq,and_true]at this;revert this;cases U1.b 5<;>cases b<;>decide
 have q0:U1.i 0=p.ctx:=(AY 0 ST).1.symm.trans g0;have q1:U1.l 1=p.l:=(AY 1 ST).2.2.symm.trans g1;have q2:U1.l 2=cx:=(AY 2 ST).2.2.symm.trans g2;have q3:U1.l 3=an:=(AY 3 ST).2.2.symm.trans g3;have q4:U1.i 4=fu:=(AY 4 ST).1.symm.trans g4;clear g0 g1 g2 g3 g4 AY Bq;refine⟨fun _=>wk,fun c=> ?_⟩;obtain⟨Iz,DW,hb3,hb4⟩:=hb (b5.symm.trans c);refine az (xs:=[.z p.ctx,.l p.l]) (by simp only[E.D,E.I,E.R,q0,q1]) hl (fun e=> ?_);have e6:U1.l 6=(AC p).1:=e.1;have e7:U1.l 7=(AC p).2.1:=e.2.1;have e9:U1.i 9=(AC p).2.2.2:=e.2.2.2.1;clear e;refine⟨fun c=> ?_,fun _=>wk⟩;have h:(AC p).2.2.2=0:=by simp only[E.B,E.I,e9]at c;exact Bt c
 refine⟨fun c=> ?_,fun _=>wk⟩;have C0:(cx.length:Int)=p.ctx:=by simp only[E.B,E.I,E.R,q2,q0]at c;exact Bt c
 obtain⟨r1,r2,r3,r4,r5⟩:=apn hl h Qg han C0 hb3 hb4;obtain⟨n1,n2⟩:=zM h;refine az (xs:=d_Prog p [.l cx,.l an,.z fu]) (by simp only[E.D,E.I,E.R,q0,q1,q2,q3,q4];rfl) ⟨⟨hl,by unfold maxLen;omega⟩,by unfold maxLen;omega⟩ (fun e=> ?_);rw[show sP_lvsound.F 3=c_jsnaps.F from rfl,Xb]at e;have e10:U1.l 10=(cQ p cx an fu).1:=e.1;have e11:U1.l 11=(cQ p cx an fu).2:=e.2.1;have e12:U1.i 12=(Cm p cx an fu).1.kind:=e.2.2.1;have e17:U1.i 17=(Cm p cx an fu).2:=e.2.2.2.2.2.2.2.1;clear e;refine⟨fun _=>⟨fun c=> ?_,fun _=>⟨fun _=> ?_,fun c=> ?_⟩⟩,fun c=> ?_⟩
 .simp only[E.B,E.I,e12]at c;exact absurd (Bt c) r2
 rotate_left
 .simp only[E.B,E.I,E.R,e10,e11,r3]at c;simp at c
 .simp only[E.B,E.I,e17,r1]at c;cases c
 generalize hA:(cQ p cx an fu).1=A at *;generalize hS:(cQ p cx an fu).2=S at *;refine⟨fun ds=>∃n:Nat,ds=[.z (n:Int)]/\n<=S.length,fun ds=>S.length-(dI ds 0).toNat,⟨0,rfl,Nat.zero_le _⟩,?_⟩;intro U2 Cf _ Gv;obtain⟨n,Bq,hn⟩:=Gv;have f6:U2.l 6=(AC p).1:=(Cf 6 ST).2.2.symm.trans e6;have f7:U2.l 7=(AC p).2.1:=(Cf 7 ST).2.2.symm.trans e7;have f10:U2.l 10=A:=(Cf 10 ST).2.2.symm.trans e10;have f11:U2.l 11=S:=(Cf 11 ST).2.2.symm.trans e11;rw[show varsD U2 18 [.int .i64]=[.z (U2.i 18)]from rfl]at Bq ⊢;simp only[Be,Dt.z.injEq,and_true]at Bq;refine⟨fun c=> ?_,fun _=>wk⟩;have Lf:n<S.length:=by simp only[E.B,E.I,E.R,f11,Bq]at c;have:=Ah c;omega
 obtain⟨m,gm,em1,em2⟩:=r5 n Lf;refine⟨fun c1=> ?_,fun _=>⟨fun _=> ?_,fun c1=> ?_⟩⟩
 .simp only[E.B,E.I,Bq]at c1;have:=Ah c1;omega
 rotate_left
 .simp only[E.B,E.I,E.R,Bq,f10,r3]at c1;have:=Ab c1;omega
 refine az (xs:=[.l (AC p).1,.l (AC p).2.1,.z m.pc]) (by simp only[E.D,E.I,E.R,f6,f7,f10,Bq,em1]) ⟨by show(AC p).1.length<=_;omega,by show(AC p).2.1.length<=_;omega⟩ (fun e=> ?_);rw[show sP_lvsound.F 4=c_vat.F from rfl,auh,(gm.at h).1,(gm.at h).2]at e;have eS:Do U2 19=iX (AC p).2.1 m.pc:=VL (ks:=[.bool]) e;have b190:U2.b 190=ZB:=atJ (S:=iX (AC p).2.1 m.pc) (v0:=19) e;clear e;refine⟨fun _=> ?_,fun c=>(by rw[show(E.s 190).B U2=ZB from b190]at c;cases c)⟩;have hX:(E.vs 19 171 (.gs (.g 11) (.w 18) 0 76 .nil)).D U2=d_Sta (iX (AC p).2.1 m.pc) (d_Snap (dx m) []):=by rw[arn,aup,eS,show(E.g 11).R U2=S from f11,show(E.w 18).I U2=(n:Int)from Bq,em2];rfl
 have Tj:Ar (iX (AC p).2.1 m.pc) (dx m)=ZB:=gm.sh;refine az _ hX trivial (fun e=> ?_);rw[show sP_lvsound.F 5=c_thas.F from rfl,auk,Tj]at e;have b191:U2.b 191=ZB:=e.1.trans rfl;clear e;refine⟨fun _=> ?_,fun c=>(by rw[show(E.s 191).B U2=ZB from b191]at c;cases c)⟩;refine az _ hX trivial (fun e=> ?_);rw[show sP_lvsound.F 6=c_yhas.F from rfl,aud,Tj]at e;have b192:U2.b 192=ZB:=e.1.trans rfl;clear e;refine⟨fun _=>aY ?_,fun c=>(by rw[show(E.s 192).B U2=ZB from b192]at c;cases c)⟩;have iE:(E.f .add .i64 (.w 18) (.p 1)).I U2=((n+1:Nat):Int):=by simp only[E.I,Bq];exact G2 Lf r4
 refine⟨⟨n+1,by simp only[E.D,iE],Lf⟩,?_⟩;show S.length-((E.f .add .i64 (.w 18) (.p 1)).I U2).toNat<S.length-(U2.i 18).toNat;rw[iE,Bq];omega
def acM(xs:List Dt)(vals:List Value)(w:World)(hw:nq w [.agg kProg,.one (.sl [ZA .u8] 5),.one (.sl [ZA .u64] 39),.one (.int .i64)] xs vals)(hh:Jt w):Calls ZE 3 vals.toArray w fun e w'=>∃v,e=.returned v/\RetOk [.one .bool] ZC w w' (kC xs) v:=
 (xd (by kernel_rfl) aea (EC (akZ rfl rfl)<|EC (api rfl)<|EC (agt rfl rfl)<|EC (ak0 rfl rfl)<|EC (au1 rfl rfl)<|EC (as0 rfl rfl)<|EC (asL rfl rfl) TL) Tryz.func3 E0 acL (pre:=fun _=>True) (gS fun p gp=>fun cx gcx an gan fu gfu hp=>acJ p gp cx gcx an gan fu gfu) xs vals w hw trivial hh).2
def rwU8:Rw ZE 5 [ZA .u8]:=Rw.int .u8 Tryz.underlying5 (by kernel_rfl)
def rwU:Rw ZE 39 [ZA .u64]:=Rw.int .u64 Tryz.underlying39 (by kernel_rfl)
def qk{enc:TypeId×Value->H}{r:Reach}{b0:Nat}(v0:Value)(k0:Value.okWide ZE W r b0 24 v0)(d0:DataW H)(p0:List MemPlace)(h0:DataW.Trod enc ZE W 0 (fun _=>ZB) ZB 24 v0 d0 p0)(_:∀x∈p0,x.block<W.heap.size)(v1:Value)(k1:Value.okWide ZE W r b0 25 v1)(d1:DataW H)(p1:List MemPlace)(h1:DataW.Trod enc ZE W 0 (fun _=>ZB) ZB 25 v1 d1 p1)(_:∀x∈p1,x.block<W.heap.size)(v2:Value)(k2:Value.okWide ZE W r b0 26 v2)(d2:DataW H)(p2:List MemPlace)(h2:DataW.Trod enc ZE W 0 (fun _=>ZB) ZB 26 v2 d2 p2)(_:∀x∈p2,x.block<W.heap.size)(a3:Int)(w3:(Lit.int .i64 a3).wf=ZB)(hh:Jt W):
  Calls ZE 3 #[v0,v1,v2,.int .i64 a3] W fun e W'=>e=.returned (.bool ZB)/\Below W.heap.size W W':=by
 obtain⟨a0,q0,s0,rfl,w0,n0,m0,o0,l0⟩:=Prog.of_arg k0 h0;obtain⟨q1,s1,rfl,n1,m1,o1,l1⟩:=vB rwU8 ST Tryz.underlying25 k1 h1;obtain⟨q2,s2,rfl,n2,m2,o2,l2⟩:=vB rwU ST Tryz.underlying26 k2 h2;refine(acM ([.z a0,.l q0,.l q1,.l q2,.z a3]) _ W ⟨_,_,_,rfl,⟨_,_,_,rfl,⟨_,rfl,rfl,w0⟩,⟨_,_,_,rfl,⟨_,_,rfl,rfl,n0,m0,o0,l0⟩,⟨rfl,rfl⟩⟩⟩,⟨_,_,_,rfl,⟨_,_,rfl,rfl,n1,m1,o1,l1⟩,⟨_,_,_,rfl,⟨_,_,rfl,rfl,n2,m2,o2,l2⟩,⟨_,_,_,rfl,⟨_,rfl,rfl,(wX w3)⟩,⟨rfl,rfl⟩⟩⟩⟩⟩ hh).mono fun e W' ⟨v,he,hr⟩=> ?_;have hv:v=.bool ZB:=RetOk.says hr;rw[he,hv];exact⟨rfl,hr.ext⟩
end Go.Proofs.YtgolejfhoefeaaaGreatDoor
