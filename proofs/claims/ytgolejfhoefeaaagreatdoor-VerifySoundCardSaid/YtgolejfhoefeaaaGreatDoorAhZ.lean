import Derived.Test.YtgolejfhoefeaaaGreatDoorAfZ
import Derived.Test.YtgolejfhoefeaaaGreatDoorVzC
import Derived.Test.YtgolejfhoefeaaaGreatDoorProg
import Derived.Laws.Externs
import Derived.Test.YtgolejfhoefeaaaGreatDoorAgZ
import Derived.Test.YtgolejfhoefeaaaGreatDoorAeZ
import Derived.Lib.SmallJoins
import Derived.Test.YtgolejfhoefeaaaGreatDoorRows
set_option maxRecDepth 100000
set_option maxHeartbeats 8000000
set_option linter.defProp false
set_option linter.unusedVariables false
set_option linter.unusedSimpArgs false
namespace Go.Proofs.YtgolejfhoefeaaaGreatDoor
open Option renaming some->ZA,none->ZE
open Bool renaming true->ZB,false->ZC
open Nat renaming reduceAdd->ZD,reduceSub->ZH,le_refl->ZK
open Go.Proofs.Tryz renaming prog->ZF
open Go.IntKind renaming wrap->ZG
open List renaming cons_append->ZO,nil_append->ZQ,append_nil->YR,flatMap_cons->ZR,flatMap_nil->ZU
open Int renaming ofNat_lt->ZZ
open Go Go.RowKit
variable {p q q2:Prop}{n:Nat}{U:Env}{H:Type}{W:World}
def aqS:(AC ⟨0,[[0,11,64,0,0,0,0,0,0],[6,0,0,0,0,0,0,0,0]]⟩).2.2.2=0:=by kernel_rfl
def alm:(AC ⟨0,[[6,0,0,0,0,0,0,0,0]]⟩).2.2.2=110:=by kernel_rfl
def abX:(AC ⟨4,[[1,0,0,8,0,0,1,0,0],[6,0,0,0,0,0,0,0,0]]⟩).2.2=(0,111):=by kernel_rfl
open Go.ChangeShapes Go.WideShapes
def aeh:List (Nat×TI):=[(2,CB),
 (3,CU),
 (4,EH),
 (22,vd),
 (24,vb),
 (29,VP),
 (30,Ue),
 (32,VT),
 (33,Tf),
 (38,fT),
 (39,eX),
 (46,gZ),
 (48,jl),
 (50,eM),
 (52,qS),
 (53,qR),
 (54,qQ),
 (56,uZ),
 (66,qP)]
def uT:∀t i,(t,i)∈aeh->TIok ZF t i:=bi (DX (z:=Ei) ⟨ra,lh⟩<|DX (z:=Dr) ⟨qZ,lg⟩<|DX (z:=lQ) ⟨lj,ig⟩ B1) B1 (by kernel_rfl)
def yx(key:Nat):Sm:=⟨5,key,[],[.one .bool],ZC⟩
def yA:List Dt->List Dt
 |[]=>[.z (AE ZB)]
 |_=>[]
def yn:Tr:=
(.call 0 ([.sl [ZE] 4,.sl EE 56]++[.int .i64]++[.int .i64]) (.cons (.p 0) (.N (.lcat (.lq .ln (.zs [0,11,64,0] (.j (.tt ZC) (.zs [0,0,0,0] .nil)))) (.lq .ln (.zs [6,0,0,0] (.j (.tt ZC) (.zs [0,0,0,0] .nil))))) .nil)) 0
(.call 0 ([.sl [ZE] 4,.sl EE 56]++[.int .i64]++[.int .i64]) (.cons (.p 0) (.N (.lq .ln (.zs [6,0,0,0] (.j (.tt ZC) (.zs [0,0,0,0] .nil)))) .nil)) 4
(.call 0 ([.sl [ZE] 4,.sl EE 56]++[.int .i64]++[.int .i64]) (.cons (.p 4) (.N (.lcat (.lq .ln (.zs [1,0,0,8] (.j (.tt ZC) (.zs [0,1,0,0] .nil)))) (.lq .ln (.zs [6,0,0,0] (.j (.tt ZC) (.zs [0,0,0,0] .nil))))) .nil)) 8
(.br (.eq (.w 3) (.p 0))
(.br (.eq (.w 7) (.p 110))
(.br (.eq (.w 10) (.p 0))
(.u (.j (.eq (.w 11) (.p 111)) .nil))
zlF)
zlF)
zlF))))
def apg:Spec:={F:=fun k=>match k with|0=>tI|_=>fun _=>[],pre:=fun k=>match k with|0=>pI|_=>fun _=>True,hw:=Jc,hx:=UN,hi:=UK}
def apb:cb aeh [tH 0] [(11,Tryz.f11,[],[])] [] [] 200 Tryz.f5 [] [.one .bool] ZC [] yn:=E0 (by kernel_rfl)
def ao4:Cn yn apg [] [] yA:=by
 intro U g;unfold yn;refine az (xs:=[.z 0,.l [[0,11,64,0,0,0,0,0,0],[6,0,0,0,0,0,0,0,0]]]) rfl (Nat.le_of_ble_eq_true (by kernel_rfl)) (fun e=> ?_);have a1:U.i 3=0:=e.2.2.2.1.trans aqS;clear e;refine az (xs:=[.z 0,.l [[6,0,0,0,0,0,0,0,0]]]) rfl (Nat.le_of_ble_eq_true (by kernel_rfl)) (fun e=> ?_);have a2:U.i 7=110:=e.2.2.2.1.trans alm;clear e;refine az (xs:=[.z 4,.l [[1,0,0,8,0,0,1,0,0],[6,0,0,0,0,0,0,0,0]]]) rfl (Nat.le_of_ble_eq_true (by kernel_rfl)) (fun e=> ?_);have a3:U.i 10=0:=e.2.2.1.trans (congrArg Prod.fst abX);have a4:U.i 11=111:=e.2.2.2.1.trans (congrArg Prod.snd abX);clear e;refine⟨fun _=>⟨fun _=>⟨fun _=> ?_,fun c=> ?_⟩,fun c=> ?_⟩,fun c=> ?_⟩
 .show[Dt.z (AE (U.i 11==111))]=[.z (AE ZB)];rw[a4];rfl
 .rw[show(E.eq (.w 10) (.p 0)).B U=(U.i 10==0)from rfl,a3]at c;cases c
 .rw[show(E.eq (.w 7) (.p 110)).B U=(U.i 7==110)from rfl,a2]at c;cases c
 .rw[show(E.eq (.w 3) (.p 0)).B U=(U.i 3==0)from rfl,a1]at c;cases c
def api{sp:Spec}{key:Nat}(hF:sp.F key=yA)(hP:sp.pre key=fun _=>True:=by rfl)(hH:∀w,sp.hw w->Jc w:=by exact fun _ h=>h):SmOk ZF sp (yx key):=Ut (s:=yx key) (hW:=hH) hF hP (by kernel_rfl) uT (EK (agt rfl rfl) TC) Tryz.func5 (GB Tryz.func11 E2) apb (.inl rfl) (fun hp=>ao4)
def jI:List Dt->Prop
 |[.z x0,.l x1]=>let f (pr:Prog):Prop:=pr.l.length<=maxLen;f ⟨x0,x1⟩
 |_=>False
def c_lgreat:Cd:=⟨4,[.agg kProg],[.one .bool],rd_Prog fun pr _=>[.z (AE (decide ((100:Int)<(pr.l.length:Int))))],jI⟩
def vY:Tr:=
(.u (.j (.lt (.p 100) (.len (.g 1))) .nil))
def akZ:c_lgreat.Ok ZF:=
 AT (hl:=.inr (.inl ⟨(fun xs (h:jI xs) L hL=>by unfold jI at h;split at h<;>first|exact h.elim|(simp at hL;subst hL;exact h)),rfl⟩)) vY (v_Prog []) uT AI Tryz.func4<|gS fun pr WF hp U g=>by
 simp only[c_lgreat,jI,dE,b2i_one,bF,Prog.eta,Ins.eta,af,aL]at hp;simp only[dE,AB,ZD]at g;simp only[vY,c_lgreat,dE,Ai,ZH,ZD,-eq_self,bF,Prog.eta,Ins.eta,af,aL,g]
 .try rfl
def cj(x:Ins):Ins:=
 if x.k=0 then⟨x.k,x.op,x.w,0,x.br &&!(x.op==8),x.d,if x.br=ZB/\x.op≠8 then x.s else 0,0,if x.br=ZB\/x.op=8 then 0 else x.imm⟩
 else if x.k=1\/x.k=2 then⟨x.k,0,0,x.sz,ZC,x.d,x.s,x.off,0⟩
 else if x.k=3 then⟨x.k,x.op,0,0,x.br,x.d,if x.br=ZB then x.s else 0,x.off,if x.br=ZB then 0 else x.imm⟩
 else if x.k=4 then⟨x.k,0,0,0,ZC,0,0,x.off,0⟩
 else if x.k=5 then⟨x.k,0,0,0,ZC,0,0,0,x.imm⟩
 else⟨x.k,0,0,0,ZC,0,0,0,0⟩
def cE(x:Ins):Bool:=
 if x.k=0 then(!decide (x.op<0))&&((!decide (12<x.op))&&((x.w==32||x.w==64)&&decide (x.d<10)))
 else if x.k=1 then aN x.sz&&decide (x.d<10)
 else if x.k=2 then aN x.sz
 else if x.k=3 then(!decide (x.op<0)) &&!decide (10<x.op)
 else if x.k=5 then(!decide (x.imm<0))&&decide (x.imm<16)
 else ZB
def cD(x y:Ins):Bool:=(x.k==y.k)&&((x.op==y.op)&&((x.w==y.w)&&((x.sz==y.sz)&&((x.br==y.br)&&((x.d==y.d)&&((x.s==y.s)&&((x.off==y.off)&&(x.imm==y.imm))))))))
def jm(x:Ins):Bool:=(!decide (x.k<0))&&((!decide (6<x.k))&&(cD x (cj x)&&((!decide (x.d<0))&&((!decide (10<x.d))&&((!decide (x.s<0))&&((!decide (10<x.s))&&((!decide (x.off < -32768))&&(decide (x.off<32768)&&((!decide (x.imm < -2147483648))&&(decide (x.imm<2147483648)&&cE x))))))))))
def be(x:Ins):A3 x=jm x:=by
 obtain⟨k,op,w,sz,br,d,s,off,imm⟩:=x;by_cases h0:k=0
 .subst h0;by_cases h8:op=8
  .subst h8;cases br<;>(rw[aj];simp[A3,jm,fz,gi,ct,BI,cD,cj,cE];try omega)
  .cases br<;>(rw[aj];simp[A3,jm,fz,gi,ct,BI,cD,cj,cE,h8];try omega)
 by_cases h1:k=1
 .subst h1;cases br<;>(rw[aj];simp[A3,jm,fz,gi,ct,BI,cD,cj,cE];try (cases aN sz<;>simp<;>omega))
 by_cases h2:k=2
 .subst h2;cases br<;>(rw[aj];simp[A3,jm,fz,gi,ct,BI,cD,cj,cE];try (cases aN sz<;>simp<;>omega))
 by_cases h3:k=3
 .subst h3;cases br<;>(rw[aj];simp[A3,jm,fz,gi,ct,BI,cD,cj,cE];try omega)
 by_cases h4:k=4
 .subst h4;cases br<;>(rw[aj];simp[A3,jm,fz,gi,ct,BI,cD,cj,cE];try omega)
 by_cases h5:k=5
 .subst h5;cases br<;>(rw[aj];simp[A3,jm,fz,gi,ct,BI,cD,cj,cE];try omega)
 by_cases h6:k=6
 .subst h6;cases br<;>(rw[aj];simp[A3,jm,fz,gi,ct,BI,cD,cj,cE];try omega)
 .have:¬(0<=k/\k<=6):=by omega
  rw[aj];simp[A3,jm,ct,h0,h1,h2,h3,h4,h5,h6];omega
def ap4{p:Prog}(hl:p.l.length<=maxLen):p.last=(p.l.length:Int)-1:=by unfold Prog.last;show IntKind.i64.wrap ((p.l.length:Int)-1)=_;rw[aP];simp[maxLen]at hl;omega
def ay:=aI Ins.eta (Prog.eta)
def aha(k:q2)(h:p->q=q2:=by intro e;(try simp only[e,ay,af,-eq_self]);rfl):p->q:=fun e=>(h e).symm▸k
def aoF:List (Nat×TI):=[(3,CU),
 (4,EH),
 (38,fT),
 (66,qP)]
def jD:∀t i,(t,i)∈aoF->TIok ZF t i:=bi (DX (z:=lQ) ⟨lj,ig⟩ B1) B1 (by kernel_rfl)
def c_jsz:Cd:=⟨93,[.one (.int .i8)],[.one .bool],rdZ fun n _=>[.z (AE (aN n))],T0⟩
def amn:Tr:=
(.br (.eq (.w 0) (.p 1))
zlT
(.br (.eq (.w 0) (.p 2))
zlT
(.br (.eq (.w 0) (.p 4))
zlT
(.u (.j (.eq (.w 0) (.p 8)) .nil)))))
def au8:c_jsz.Ok ZF:=
 AT amn [.int .i8] jD AI Tryz.func93<|fun n hn hp U g=>by
 simp only[AB,ZD]at g;simp only[amn,c_jsz,Ai,ZH,ZD,-eq_self,ay,af,g]
 .repeat' first|apply aI<;>intro c|exact Xt
def c_jfields:Cd:=⟨92,[.agg kIns],[.agg kIns],rd_Ins fun x _=>d_Ins (cj x) [],T0⟩
def anD:Tr:=(.u (.cons (.w 0) (.cons (.p 0) (.cons (.p 0) (.cons (.w 3) (.j (.tt ZC) (.vs 5 3 (.cons (.p 0) .nil))))))))
def rC:Tr:=
(.br (.eq (.w 0) (.p 0))
(.br (.s 4)
(.br (.eq (.w 1) (.p 8))
(.u (.vs 0 3 (.cons (.p 0) (.j (.not (.eq (.w 1) (.p 8))) (.cons (.w 5) (.zs [0,0,0] .nil))))))
(.u (.vs 0 3 (.cons (.p 0) (.j (.not (.eq (.w 1) (.p 8))) (.vs 5 2 (.cons (.p 0) (.cons (.p 0) .nil))))))))
(.br (.eq (.w 1) (.p 8))
(.u (.vs 0 3 (.cons (.p 0) (.j (.tt ZC) (.cons (.w 5) (.zs [0,0,0] .nil))))))
(.u (.vs 0 3 (.cons (.p 0) (.j (.tt ZC) (.cons (.w 5) (.cons (.p 0) (.cons (.p 0) (.cons (.w 8) .nil))))))))))
(.br (.eq (.w 0) (.p 1))
anD
(.br (.eq (.w 0) (.p 2))
anD
(.br (.eq (.w 0) (.p 3))
(.br (.s 4)
(.u (.vs 0 2 (.cons (.p 0) (.cons (.p 0) (.j (.s 4) (.vs 5 3 (.cons (.p 0) .nil)))))))
(.u (.vs 0 2 (.cons (.p 0) (.cons (.p 0) (.j (.s 4) (.cons (.w 5) (.cons (.p 0) (.vs 7 2 .nil)))))))))
(.br (.eq (.w 0) (.p 4))
(.u (.cons (.w 0) (.zs [0,0,0] (.j (.tt ZC) (.cons (.p 0) (.cons (.p 0) (.cons (.w 7) (.cons (.p 0) .nil))))))))
(.br (.eq (.w 0) (.p 5))
(.u (.cons (.w 0) (.zs [0,0,0] (.j (.tt ZC) (.zs [0,0,0] (.cons (.w 8) .nil))))))
(.u (.cons (.w 0) (.zs [0,0,0] (.j (.tt ZC) (.zs [0,0,0,0] .nil)))))))))))
def ahK:c_jfields.Ok ZF:=
 AT rC (v_Ins []) jD AI Tryz.func92<|iR fun x hx hp U g=>by
 simp only[eu,AB,ZD]at g;simp only[rC,anD,c_jfields,eu,Ai,ZH,ZD,-eq_self,ay,af,g]
 .repeat' first|apply aI<;>intro c|exact XI
def c_jmay:Cd:=⟨50,[.agg kIns],[.one .bool],rd_Ins fun x _=>[.z (AE (A3 x))],T0⟩
def age:Tr:=
(.br (.lt (.w 0) (.p 0))
zlF
(.br (.lt (.p 6) (.w 0))
zlF
(.call 1 (kIns) (.vs 0 4 (.j (.s 4) (.vs 5 4 .nil))) 9
(.br (.eq (.w 0) (.w 9))
(.br (.eq (.w 1) (.w 10))
(.br (.eq (.w 2) (.w 11))
(.br (.eq (.w 3) (.w 12))
(.br (.beq (.s 4) (.s 13))
(.br (.eq (.w 5) (.w 14))
(.br (.eq (.w 6) (.w 15))
(.br (.eq (.w 7) (.w 16))
(.br (.eq (.w 8) (.w 17))
(.br (.lt (.w 5) (.p 0))
zlF
(.br (.lt (.p 10) (.w 5))
zlF
(.br (.lt (.w 6) (.p 0))
zlF
(.br (.lt (.p 10) (.w 6))
zlF
(.br (.lt (.w 7) (.p (-32768)))
zlF
(.br (.lt (.w 7) (.p 32768))
(.br (.lt (.w 8) (.p (-2147483648)))
zlF
(.br (.lt (.w 8) (.p 2147483648))
(.br (.eq (.w 0) (.p 0))
(.br (.lt (.w 1) (.p 0))
zlF
(.br (.lt (.p 12) (.w 1))
zlF
(.br (.eq (.w 2) (.p 32))
(.u (.j (.lt (.w 5) (.p 10)) .nil))
(.br (.eq (.w 2) (.p 64))
(.u (.j (.lt (.w 5) (.p 10)) .nil))
zlF))))
(.br (.eq (.w 0) (.p 1))
(.call 0 [.bool] (.cons (.w 3) .nil) 18
(.br (.s 18)
(.u (.j (.lt (.w 5) (.p 10)) .nil))
zlF))
(.br (.eq (.w 0) (.p 2))
(.call 0 [.bool] (.cons (.w 3) .nil) 18
(.u (.j (.s 18) .nil)))
(.br (.eq (.w 0) (.p 3))
(.br (.lt (.w 1) (.p 0))
zlF
(.u (.j (.not (.lt (.p 10) (.w 1))) .nil)))
(.br (.eq (.w 0) (.p 5))
(.br (.lt (.w 8) (.p 0))
zlF
(.u (.j (.lt (.w 8) (.p 16)) .nil)))
zlT)))))
zlF))
zlF))))))
zlF)
zlF)
zlF)
zlF)
zlF)
zlF)
zlF)
zlF)
zlF))))
def atf:c_jmay.Ok ZF:=
 AT age (v_Ins []) jD (Am au8<|Am ahK AI) Tryz.func50<|iR fun x hx hp U g=>by
 simp only[eu,AB,ZD]at g;simp only[age,c_jsz,c_jfields,c_jmay,eu,Ai,ZH,ZD,-eq_self,ay,af,g]
 .repeat' first|apply aI<;>intro c|refine aha ?_|exact IO
def c_jtgt:Cd:=⟨51,[.one (.int .i64),.agg kIns],[.one (.int .i64),.one .bool],rdZ fun i=>rd_Ins fun x _=>[.z ((AN i x).1),.z (AE ((AN i x).2))],T0⟩
def Qh:Tr:=(.u (.cons (.p 0) (.j (.tt ZC) .nil)))
def anC:Tr:=(.br (.lt (.w 0) (.p (-1099511627776)))
Qh
(.br (.lt (.p 1099511627776) (.w 0))
Qh
(.br (.lt (.w 8) (.p (-1099511627776)))
Qh
(.br (.lt (.p 1099511627776) (.w 8))
Qh
(.u (.cons (.f .add .i64 (.f .add .i64 (.w 0) (.p 1)) (.w 8)) (.j (.tt ZB) .nil)))))))
def agb:Tr:=
(.br (.eq (.w 1) (.p 3))
anC
(.br (.eq (.w 1) (.p 4))
anC
Qh))
def amR:c_jtgt.Ok ZF:=
 AT agb (.int .i64::v_Ins []) jD AI Tryz.func51<|fun i hi=>iR fun x hx hp U g=>by
 simp only[eu,AB,ZD]at g;simp only[agb,anC,Qh,c_jtgt,eu,Ai,ZH,ZD,-eq_self,ay,af,g];apply aI<;>intro c0;apply aI<;>intro c1
 .rw[rT (by have:=Ah c1;simp;omega)];try rfl
 apply aI<;>intro c2
 .rw[rT (by have:=Ah c2;simp;omega)];try rfl
 apply aI<;>intro c3
 .rw[rS (by have:=Ah c3;simp;omega)];try rfl
 apply aI<;>intro c4
 .rw[rS (by have:=Ah c4;simp;omega)];try rfl
 .rw[rR (.inl (Br c0)) (by have q1:=Ab c1;have q2:=Ab c2;simp;omega) (by have q1:=Ab c3;have q2:=Ab c4;simp;omega)];try rfl
 apply aI<;>intro c5;apply aI<;>intro c6
 .rw[rT (by have:=Ah c6;simp;omega)];try rfl
 apply aI<;>intro c7
 .rw[rT (by have:=Ah c7;simp;omega)];try rfl
 apply aI<;>intro c8
 .rw[rS (by have:=Ah c8;simp;omega)];try rfl
 apply aI<;>intro c9
 .rw[rS (by have:=Ah c9;simp;omega)];try rfl
 .rw[rR (.inr (Br c5)) (by have q1:=Ab c6;have q2:=Ab c7;simp;omega) (by have q1:=Ab c8;have q2:=Ab c9;simp;omega)];try rfl
 .rw[amU c0 c5];try rfl
def c_jargs:Cd:=⟨94,[.one (.int .i64)],[.one (.int .i64)],rdZ fun n _=>[.z (fJ n)],T0⟩
def aaW:Tr:=
(.br (.lt (.w 0) (.p 0))
(.u (.cons (.p 0) .nil))
(.br (.lt (.w 0) (.p 16))
(.u (.cons (.f .rem .i64 (.w 0) (.p 6)) .nil))
(.u (.cons (.p 0) .nil))))
def ahL:c_jargs.Ok ZF:=
 AT aaW [.int .i64] jD AI Tryz.func94<|fun n hn hp U g=>by
 simp only[AB,ZD]at g;simp only[aaW,c_jargs,Ai,ZH,ZD,-eq_self,ay,af,g]
 .repeat' first|apply aI<;>intro c|exact YH
def amC(k:q2)(h:p->q=q2:=by intro e;(try simp only[e,ay,af,-eq_self]);rfl):p->q:=fun e=>(h e).symm▸k
def aep:List (Nat×TI):=[(3,CU),
 (4,EH),
 (22,vd),
 (24,vb),
 (38,fT),
 (66,qP)]
def aee:∀t i,(t,i)∈aep->TIok ZF t i:=bi (DX (z:=lQ) ⟨lj,ig⟩ B1) B1 (by kernel_rfl)
def jM:List Dt->Prop
 |[.z x0,.l x1]=>let f (pr:Prog):Prop:=pr.l.length<=maxLen;f ⟨x0,x1⟩
 |_=>False
def c_jcheck:Cd:=⟨18,[.agg kProg],[.one (.int .i64),.one (.int .i64)],rd_Prog fun pr _=>[.z ((aV pr).1),.z ((aV pr).2)],jM⟩
def anA:Tr:=(.next 0 (.cons (.f .add .i64 (.w 2) (.p 1)) .nil))
def anB:E:=(.get (.g 1) (.f .sub .i64 (.len (.g 1)) (.p 1)) 0)
def pG:Tr:=
(.br (.lt (.w 0) (.p 0))
(.u (.cons (.p 0) (.cons (.p 2) .nil)))
(.br (.lt (.p 256) (.w 0))
(.u (.cons (.p 0) (.cons (.p 2) .nil)))
(.br (.lt (.len (.g 1)) (.p 1))
(.u (.cons (.p 0) (.cons (.p 3) .nil)))
(.br (.lt (.p 64) (.len (.g 1)))
(.u (.cons (.p 0) (.cons (.p 3) .nil)))
(.loop 0 2 [.int .i64] (.cons (.p 0) .nil)
(.br (.lt (.w 2) (.len (.g 1)))
(.br (.lt (.w 2) (.p 0))
.panic
(.call 0 [.bool] (.ins (.g 1) (.w 2) .nil) 3
(.br (.s 3)
(.call 1 [.int .i64,.bool] (.cons (.w 2) (.ins (.g 1) (.w 2) .nil)) 4
(.br (.s 5)
(.br (.lt (.w 4) (.p 0))
(.u (.cons (.w 2) (.cons (.p 32) .nil)))
(.br (.lt (.w 4) (.len (.g 1)))
anA
(.u (.cons (.w 2) (.cons (.p 32) .nil)))))
anA))
(.u (.cons (.w 2) (.cons (.p 31) .nil))))))
(.br (.lt (.f .sub .i64 (.len (.g 1)) (.p 1)) (.p 0))
.panic
(.br (.lt (.f .sub .i64 (.len (.g 1)) (.p 1)) (.len (.g 1)))
(.br (.eq anB (.p 4))
(.u (.cons (.p 0) (.cons (.p 0) .nil)))
(.br (.eq anB (.p 6))
(.u (.cons (.p 0) (.cons (.p 0) .nil)))
(.u (.cons (.f .sub .i64 (.len (.g 1)) (.p 1)) (.cons (.p 33) .nil)))))
.panic))))))))
def agr:cb aep (FJ 0 [c_jmay,c_jtgt]) [] [(7,[.tmpI 5 .i64]++E1 [(2,2),(6,2),(25,34)])] [] 200 Tryz.f18 c_jcheck.a c_jcheck.r (tp c_jcheck.r) (v_Prog []) pG:=E0 (by kernel_rfl)
def ak4:c_jcheck.Ok ZF:=
 GE (hl:=.inr (.inl ⟨(fun xs (h:jM xs) L hL=>by unfold jM at h;split at h<;>first|exact h.elim|(simp at hL;subst hL;exact h)),rfl⟩)) pG (v_Prog []) aee (Am atf<|Am amR AI) Tryz.func18 E2 agr<|gS fun pr WF hp U g=>by
 simp only[c_jcheck,jM,dE,b2i_one,ay,af]at hp;have Aq:=g;simp only[dE,eu,AB,ZD]at g;simp only[pG,anB,anA,c_jmay,c_jtgt,c_jcheck,dE,eu,Ai,ZH,ZD,-eq_self,ay,af,g];have hp:=WF.2.len;have LD:=ap4 hp;apply aI<;>intro c0
 .rw[nL (by have q:=Ah c0;simp;omega)];try rfl
 apply aI<;>intro c1
 .rw[nL (by have q:=Ah c1;simp;omega)];try rfl
 apply aI<;>intro c2
 .rw[nK Yc (by have q:=Ah c2;rw[LD];simp;omega)];try rfl
 apply aI<;>intro c3
 .rw[nK Yc (by have q:=Ah c3;rw[LD];simp;omega)];try rfl
 have hC:(decide (0<=pr.ctx)&&decide (pr.ctx<=256))=ZB:=Yc;have hL:(decide (0<=pr.last)&&decide (pr.last<=63))=ZB:=by have q1:=Ab c2;have q2:=Ab c3;rw[LD];simp;omega
 refine⟨fun ds=>∃n:Nat,ds=[.z (n:Int)]/\n<=pr.l.length/\(Dq pr pr.l.length 0=Dq pr (pr.l.length-n) n),fun ds=>(pr.l.length-(dI ds 0).toNat),⟨0,rfl,Nat.zero_le _,rfl⟩,?_⟩;intro U1 AZ _ Ba;obtain⟨n,Bp,r1,r2⟩:=Ba;simp only[Be,Dt.z.injEq,and_true]at Bp;have g1:=(aW AZ _ 0 ST).trans Aq;simp only[dE,eu,AB,ZD]at g1;simp only[g1,Bp,af,-eq_self];apply aI<;>intro c4;apply aI<;>intro c5
 .exact absurd (Ah c5) Fn
 refine amC ?_;apply aI<;>intro c6;refine amC ?_;apply aI<;>intro c7;apply aI<;>intro c8
 .rw[iA hC hL r2 (ZZ.1 (Ah c4)) (oS c6 c7 (by have q:=Ah c8;rw[LD];simp;omega))];try rfl
 apply aI<;>intro c9
 .exact⟨⟨n+1,by rw[G0 (ZZ.1 (Ah c4)) hp],(ZZ.1 (Ah c4)),r2.trans (mf (ZZ.1 (Ah c4)) (oT c6 (.inr (by have q1:=Ab c8;have q2:=Ah c9;rw[LD];simp;omega))))⟩,by rw[G0 (ZZ.1 (Ah c4)) hp];show pr.l.length-(((n+1:Nat):Int)).toNat<pr.l.length-((n:Int)).toNat;have:=(ZZ.1 (Ah c4));omega⟩
 .rw[iA hC hL r2 (ZZ.1 (Ah c4)) (oS c6 c7 (by have q:=Ab c9;rw[LD];simp;omega))];try rfl
 .exact⟨⟨n+1,by rw[G0 (ZZ.1 (Ah c4)) hp],(ZZ.1 (Ah c4)),r2.trans (mf (ZZ.1 (Ah c4)) (oT c6 (.inl c7)))⟩,by rw[G0 (ZZ.1 (Ah c4)) hp];show pr.l.length-(((n+1:Nat):Int)).toNat<pr.l.length-((n:Int)).toNat;have:=(ZZ.1 (Ah c4));omega⟩
 .rw[iA hC hL r2 (ZZ.1 (Ah c4)) (qK c6)];try rfl
 apply aI<;>intro BF
 .have q:=Ah BF;have w:Ac .sub .i64 (pr.l.length:Int) 1=_:=LD;rw[w]at q;have q3:=Ab c2;omega
 apply aI<;>intro CG;apply aI<;>intro Ca
 .rw[fN hC hL r2 (by have:=Ab c4;omega),if_pos (.inl (Br Ca))];try rfl
 apply aI<;>intro Cp
 .rw[fN hC hL r2 (by have:=Ab c4;omega),if_pos (.inr (Br Cp))];try rfl
 .rw[fN hC hL r2 (by have:=Ab c4;omega),if_neg (fun h=>h.elim (Cc Ca) (Cc Cp))];try rfl
 .have q:=Ab CG;have w:Ac .sub .i64 (pr.l.length:Int) 1=_:=LD;rw[w]at q;have q3:=Ab c2;omega
def acS(cc w1 a b:Int)(w:World)(h0:0<=a)(h1:a<=18446744073709551615)(h2:0<=b)(h3:b<=18446744073709551615)(h4:0<=cc)(h5:cc<=10)(hw:fB w1=ZB):
  Calls ZF 60 #[.int .i8 cc,.int .i8 w1,.int .u64 a,.int .u64 b] w fun e w'=>e=.returned (.tuple #[.bool (lP cc w1 a b),.int .i64 0])/\w=w':=by
 obtain⟨AZ,Cj⟩:=de a w1 h0 h1;obtain⟨I4,DV⟩:=de b w1 h2 h3;have za:wrap64 (eD (Ap a w1) w1)=zs a w1:=rfl;have zb:wrap64 (eD (Ap b w1) w1)=zs b w1:=rfl;rcases alB h4 h5 with rfl|rfl|rfl|rfl|rfl|rfl|rfl|rfl|rfl|rfl|rfl
 all_goals
  go_enter Tryz.func60,Tryz.ntmps60
  go_wp2_with (first
   |(go_at_call 95;refine(ml _ _).mono ?_;rintro e w' ⟨rfl,rfl⟩)
   |(go_at_call 96;with_reducible refine(iN a _ _ Fn Fn).mono ?_;rintro e w' ⟨rfl,rfl⟩)
   |(go_at_call 96;with_reducible refine(iN b _ _ Fn Fn).mono ?_;rintro e w' ⟨rfl,rfl⟩)
   |(go_at_call 97;refine(wg _ _ _ Fn Fn).mono ?_;rintro e w' ⟨rfl,rfl⟩)
   |fail)
  go_ret2
  refine⟨?_,rfl⟩;simp[lP]
  done
def acR(op w1 a b:Int)(w:World)(HZ:(decide (op<0)||decide (10<op) ||!fB w1)=ZB):
  Calls ZF 60 #[.int .i8 op,.int .i8 w1,.int .u64 a,.int .u64 b] w fun e w'=>e=.returned (.tuple #[.bool ZC,.int .i64 2])/\w=w':=by
 have hc:op<0\/(0<=op/\10<op)\/(0<=op/\op<=10/\fB w1=ZC):=by
  by_cases h1:op<0
  .exact .inl h1
  .by_cases h2:10<op
   .exact Ym
   .exact XO
 clear HZ;rcases hc with h|⟨h,h'⟩|⟨h,h',hw⟩
 all_goals
  go_enter Tryz.func60,Tryz.ntmps60
  go_wp2_with (go_at_call 95;refine(ml _ _).mono ?_;rintro e w' ⟨rfl,rfl⟩)
  go_ret2
  exact⟨rfl,rfl⟩
def ast(k:q2)(h:p->q=q2:=by intro e;(try simp only[e,Kn.eta,Pi.eta,Pu.eta,Rg.eta,Sc.eta,Sc.eta_r,Sc.eta_k,Sc.eta_2,-eq_self]);rfl):p->q:=fun e=>(h e).symm▸k
def aoz:List (Nat×TI):=[(39,eX),
 (48,jl)]
def uV:∀t i,(t,i)∈aoz->TIok ZF t i:=bi B1 B1 (by kernel_rfl)
def c_rbits:Cd:=⟨54,[.one (.int .i8),.one (.int .i8),.one (.int .u64),.one (.int .u64)],[.one (.int .u64),.one (.int .i64)],rdZ fun op=>rdZ fun l=>rdZ fun x=>rdZ fun y _=>[.z (if Bs op l=ZB then BD op l x y else 0),.z (if Bs op l=ZB then 0 else 2)],T0⟩
def akf(op:Int)(Ad:Ae .i8 op=ZB)(l:Int)(hl:Ae .i8 l=ZB)(x:Int)(hx:Ae .u64 x=ZB)(y:Int)(hy:Ae .u64 y=ZB):(∀w,Calls ZF 54 #[.int .i8 op,.int .i8 l,.int .u64 x,.int .u64 y] w fun e w'=>e=.returned (.tuple #[.int .u64 (if Bs op l=ZB then BD op l x y else 0),.int .i64 (if Bs op l=ZB then 0 else 2)])/\Ext w w')/\fP (.tuple #[.int .u64 (if Bs op l=ZB then BD op l x y else 0),.int .i64 (if Bs op l=ZB then 0 else 2)])=ZB:=by
 have gx:=cU hx;have gy:=cU hy;cases hk:Bs op l
 .refine⟨fun w=>(apv op l x y w ?_).mono ?_,by simp[fP,fc,fg];decide⟩
  .unfold Bs at hk;rw[Bool.and_eq_false_iff,Bool.and_eq_false_iff]at hk;rcases hk with(hk|hk)|hk
   .have:=Ab hk;simp;omega
   .have:=Ab hk;simp;omega
   .rw[hk];simp
  .rintro e w' ⟨rfl,rfl⟩;exact⟨by simp,Ext.refl _⟩
 .unfold Bs at hk;simp only[ne,aB]at hk;have hz:=pn (ey op l x y gx.1 gx.2 gy.1 gy.2);refine⟨fun w=>(apw op l x y w gx.1 gx.2 gy.1 gy.2 hk.1.1 hk.1.2 hk.2).mono ?_,by simp[fP,fc,fg,hz];decide⟩;rintro e w' ⟨rfl,hx⟩
  first
  |exact⟨by simp,hx⟩
  |(subst hx;exact⟨by simp,Ext.refl _⟩)
def aqr:c_rbits.Ok ZF:=fun hF hP=>by
 refine SmOk.pure (s:=c_rbits.m _) hF rfl rfl fun xs vals w h=> ?_;obtain⟨_,_,_,rfl,⟨x0,rfl,rfl,C8⟩,h⟩:=h;obtain⟨_,_,_,rfl,⟨x1,rfl,rfl,Du⟩,h⟩:=h;obtain⟨_,_,_,rfl,⟨x2,rfl,rfl,Gd⟩,h⟩:=h;obtain⟨_,_,_,rfl,⟨x3,rfl,rfl,Gj⟩,h⟩:=h;obtain⟨rfl,rfl⟩:=h;have q:=akf x0 C8 x1 Du x2 Gd x3 Gj;refine⟨_,.inr ⟨dD Tryz.func54 (by kernel_rfl) (by kernel_rfl) _ w,q.1 w⟩,?_,fun U v0 nid j he=> ?_⟩
 .have q2:=q.2;simp[fP,fc,fg]at q2;simp[c_rbits,Cd.m,tp,rdZ,rdB,rdL,ZR,ZU,Sh.cks,YR,ZO,ZQ,b2i_one,gE,q2]
 .simp only[c_rbits,Cd.m,tp,rdZ,rdB,rdL,ZR,ZU,Sh.cks,YR,ZO,ZQ,b2i_one,eqs,dI,dB,cy,lY,bJ,Nat.add_zero,ZD,and_true]at he;simp[c_rbits,Cd.m,tp,rdZ,rdB,rdL,ZR,ZU,Sh.cks,YR,ZO,ZQ,b2i_one,fY,bH,aE,V.den,C.den,Af,BL,cm,E.I,E.B,he]
def c_qmay:Cd:=⟨139,[.agg kKn],[.one .bool],rd_Kn fun a _=>[.z (AE (Bv a))],T0⟩
def afS:Tr:=
(.u (.j (.eq (.f .and .u64 (.w 0) (.w 1)) (.p 0)) .nil))
def amL:c_qmay.Ok ZF:=
 AT afS (v_Kn []) uV AI Tryz.func139<|cG fun a ha hp U g=>by
 simp only[AM,AB,ZD]at g;simp only[afS,c_qmay,AM,Ai,ZH,ZD,-eq_self,Kn.eta,Sc.eta_r,Sc.eta_k,Sc.eta_2,g]
 .rfl
def c_qhas:Cd:=⟨104,[.agg kKn,.one (.int .u64)],[.one .bool],rd_Kn fun a=>rdZ fun v _=>[.z (AE (AX a v))],T0⟩
def afT:Tr:=
(.call 0 [.bool] (.vs 0 2 .nil) 3
(.br (.s 3)
(.u (.j (.eq (.f .andNot .u64 (.w 2) (.w 1)) (.w 0)) .nil))
zlF))
def as3:c_qhas.Ok ZF:=
 AT afT (v_Kn [.int .u64]) uV (Am amL AI) Tryz.func104<|cG fun a ha=>fun v hv hp U g=>by
 simp only[AM,AB,ZD]at g;simp only[afT,c_qmay,c_qhas,AM,Ai,ZH,ZD,-eq_self,Kn.eta,Pi.eta,Pu.eta,Rg.eta,Sc.eta,Sc.eta_r,Sc.eta_k,Sc.eta_2,g];refine ast ?_;apply aI<;>intro c0
 .exact Yp
 .exact Yp
def kI{v:Nat}{σ:Env}{z:Int}(h:Ag v U σ)(k:U.i n=z)(hn:n<v:=by decide):σ.i n=z:=(h n hn).1.symm.trans k
def kL{v:Nat}{σ:Env}{z:LL}(h:Ag v U σ)(k:U.l n=z)(hn:n<v:=by decide):σ.l n=z:=(h n hn).2.2.symm.trans k
def Out.eta(a:Out):(⟨a.kind,a.r0,a.ctx,a.tr,a.left⟩:Out)=a:=rfl
def rd_Out(k:Out->List Dt->List Dt):List Dt->List Dt
 |.z z0::.z z1::.l z2::.l z3::.z z4::r=>k ⟨z0,z1,z2,z3,z4⟩ r
 |_=>[]
def Out.ok(a:Out):Prop:=Ae .i8 a.kind=ZB/\Ae .u64 a.r0=ZB/\RowsIn [ZA .u8] a.ctx/\RowsIn (kN 8 11111212) a.tr/\Ae .i64 a.left=ZB
def kOut:List CK:=[.int .i8,.int .u64,.sl [ZA .u8] 5,.sl (kN 8 11111212) 178,.int .i64]
def v_Out(t:List VK):List VK:=.int .i8::.int .u64::.list [ZA .u8]::.list (kN 8 11111212)::.int .i64::t
def d_Out(a:Out)(t:List Dt):List Dt:=.z a.kind::.z a.r0::.l a.ctx::.l a.tr::.z a.left::t
def apy:=aI @v_Out.eq_1 (aI @d_Out.eq_1 (aI @rd_Out.eq_1 (@kOut.eq_1)))
structure JMem where
 l0:LL
 l1:LL
 l2:LL
 l3:LL
def JMem.eta(a:JMem):(⟨a.l0,a.l1,a.l2,a.l3⟩:JMem)=a:=rfl
def rd_JMem(k:JMem->List Dt->List Dt):List Dt->List Dt
 |.l z0::.l z1::.l z2::.l z3::r=>k ⟨z0,z1,z2,z3⟩ r
 |_=>[]
def JMem.ok(a:JMem):Prop:=RowsIn [ZA .u8] a.l0/\RowsIn [ZA .u8] a.l1/\RowsIn [ZA .u8] a.l2/\RowsIn [ZA .u8] a.l3
def kJMem:List CK:=[.sl [ZA .u8] 5,.sl [ZA .u8] 5,.sl [ZA .u8] 5,.sl [ZA .u8] 5]
def v_JMem(t:List VK):List VK:=.list [ZA .u8]::.list [ZA .u8]::.list [ZA .u8]::.list [ZA .u8]::t
def d_JMem(a:JMem)(t:List Dt):List Dt:=.l a.l0::.l a.l1::.l a.l2::.l a.l3::t
def ur{l:List VK}{p:List Dt->Prop}(h:∀a:JMem,JMem.ok a->aO l fun r=>p (d_JMem a r)):aO (v_JMem l) p:=fun x0 C8 x1 Du x2 Gd x3 Gj=>h ⟨x0,x1,x2,x3⟩ ⟨C8,Du,Gd,Gj⟩
def jT:=aI @v_JMem.eq_1 (aI @d_JMem.eq_1 (aI @rd_JMem.eq_1 (@kJMem.eq_1)))
structure JMd where
 r0:Int
 r1:Int
 r2:Int
 r3:Int
 r4:Int
 r5:Int
 r6:Int
 r7:Int
 r8:Int
 r9:Int
 r10:Int
def JMd.eta(a:JMd):(⟨a.r0,a.r1,a.r2,a.r3,a.r4,a.r5,a.r6,a.r7,a.r8,a.r9,a.r10⟩:JMd)=a:=rfl
def rd_JMd(k:JMd->List Dt->List Dt):List Dt->List Dt
 |.z z0::.z z1::.z z2::.z z3::.z z4::.z z5::.z z6::.z z7::.z z8::.z z9::.z Mg::r=>k ⟨z0,z1,z2,z3,z4,z5,z6,z7,z8,z9,Mg⟩ r
 |_=>[]
def JMd.ok(a:JMd):Prop:=Ae .u64 a.r0=ZB/\Ae .u64 a.r1=ZB/\Ae .u64 a.r2=ZB/\Ae .u64 a.r3=ZB/\Ae .u64 a.r4=ZB/\Ae .u64 a.r5=ZB/\Ae .u64 a.r6=ZB/\Ae .u64 a.r7=ZB/\Ae .u64 a.r8=ZB/\Ae .u64 a.r9=ZB/\Ae .u64 a.r10=ZB
def kJMd:List CK:=[.any,.any,.any,.int .u64,.int .u64,.int .u64,.int .u64,.int .u64,.int .u64,.int .u64,.int .u64,.int .u64,.int .u64,.int .u64,.any,.any,.any,.any,.any,.any,.any,.any,.any,.any,.any,.any,.any,.any,.any,.any,.any,.any,.any,.any,.any,.any,.any,.any,.any,.any,.any,.any,.any,.any,.any,.any,.any,.any,.any,.any,.any,.any,.any,.any,.any,.any,.any,.any,.any,.any,.any,.any,.any,.any,.any,.any,.any,.any,.any,.any,.any,.any,.any,.any,.any,.any,.any,.any,.any,.any,.any,.any]
def v_JMd(t:List VK):List VK:=.int .u64::.int .u64::.int .u64::.int .u64::.int .u64::.int .u64::.int .u64::.int .u64::.int .u64::.int .u64::.int .u64::t
def d_JMd(a:JMd)(t:List Dt):List Dt:=.z a.r0::.z a.r1::.z a.r2::.z a.r3::.z a.r4::.z a.r5::.z a.r6::.z a.r7::.z a.r8::.z a.r9::.z a.r10::t
def aqR{l:List VK}{p:List Dt->Prop}(h:∀a:JMd,JMd.ok a->aO l fun r=>p (d_JMd a r)):aO (v_JMd l) p:=fun x0 C8 x1 Du x2 Gd x3 Gj x4 Mj x5 Kx x6 Ma x7 LI x8 L3 x9 Qu JH KS=>h ⟨x0,x1,x2,x3,x4,x5,x6,x7,x8,x9,JH⟩ ⟨C8,Du,Gd,Gj,Mj,Kx,Ma,LI,L3,Qu,KS⟩
def Ti:=aI @v_JMd.eq_1 (aI @d_JMd.eq_1 (aI @rd_JMd.eq_1 (@kJMd.eq_1)))
structure F64 where
 f0:Int
 f1:Int
 f2:Int
 f3:Int
 f4:Int
 f5:Int
 f6:Int
 f7:Int
 f8:Int
 f9:Int
 f10:Int
 f11:Int
 f12:Int
 f13:Int
 f14:Int
 f15:Int
 f16:Int
 f17:Int
 f18:Int
 f19:Int
 f20:Int
 f21:Int
 f22:Int
 f23:Int
 f24:Int
 f25:Int
 f26:Int
 f27:Int
 f28:Int
 f29:Int
 f30:Int
 f31:Int
 f32:Int
 f33:Int
 f34:Int
 f35:Int
 f36:Int
 f37:Int
 f38:Int
 f39:Int
 f40:Int
 f41:Int
 f42:Int
 f43:Int
 f44:Int
 f45:Int
 f46:Int
 f47:Int
 f48:Int
 f49:Int
 f50:Int
 f51:Int
 f52:Int
 f53:Int
 f54:Int
 f55:Int
 f56:Int
 f57:Int
 f58:Int
 f59:Int
 f60:Int
 f61:Int
 f62:Int
 f63:Int
def F64.eta(a:F64):(⟨a.f0,a.f1,a.f2,a.f3,a.f4,a.f5,a.f6,a.f7,a.f8,a.f9,a.f10,a.f11,a.f12,a.f13,a.f14,a.f15,a.f16,a.f17,a.f18,a.f19,a.f20,a.f21,a.f22,a.f23,a.f24,a.f25,a.f26,a.f27,a.f28,a.f29,a.f30,a.f31,a.f32,a.f33,a.f34,a.f35,a.f36,a.f37,a.f38,a.f39,a.f40,a.f41,a.f42,a.f43,a.f44,a.f45,a.f46,a.f47,a.f48,a.f49,a.f50,a.f51,a.f52,a.f53,a.f54,a.f55,a.f56,a.f57,a.f58,a.f59,a.f60,a.f61,a.f62,a.f63⟩:F64)=a:=rfl
def rd_F64(k:F64->List Dt->List Dt):List Dt->List Dt:=DJ fun z0 z1 z2 z3 z4 z5 z6 z7=>DJ fun z8 z9 Mg SY QS Sj Sz RW=>DJ fun Se Q2 Q1 Q8 Qp S6 PY QI=>DJ fun Ta P3 QE Ry RT Rb Ra QK=>DJ fun SR Ss R6 RG Sv QL S9 QG=>DJ fun SB Tl Rj S0 Sf Th RA RJ=>DJ fun RL QB SZ To S3 Q7 PG SK=>DJ fun Tj QF SL QY Rx QC Sy SE=>fun r=>k ⟨z0,z1,z2,z3,z4,z5,z6,z7,z8,z9,Mg,SY,QS,Sj,Sz,RW,Se,Q2,Q1,Q8,Qp,S6,PY,QI,Ta,P3,QE,Ry,RT,Rb,Ra,QK,SR,Ss,R6,RG,Sv,QL,S9,QG,SB,Tl,Rj,S0,Sf,Th,RA,RJ,RL,QB,SZ,To,S3,Q7,PG,SK,Tj,QF,SL,QY,Rx,QC,Sy,SE⟩ r
def F64.ok(a:F64):Prop:=Ae .u8 a.f0=ZB/\Ae .u8 a.f1=ZB/\Ae .u8 a.f2=ZB/\Ae .u8 a.f3=ZB/\Ae .u8 a.f4=ZB/\Ae .u8 a.f5=ZB/\Ae .u8 a.f6=ZB/\Ae .u8 a.f7=ZB/\Ae .u8 a.f8=ZB/\Ae .u8 a.f9=ZB/\Ae .u8 a.f10=ZB/\Ae .u8 a.f11=ZB/\Ae .u8 a.f12=ZB/\Ae .u8 a.f13=ZB/\Ae .u8 a.f14=ZB/\Ae .u8 a.f15=ZB/\Ae .u8 a.f16=ZB/\Ae .u8 a.f17=ZB/\Ae .u8 a.f18=ZB/\Ae .u8 a.f19=ZB/\Ae .u8 a.f20=ZB/\Ae .u8 a.f21=ZB/\Ae .u8 a.f22=ZB/\Ae .u8 a.f23=ZB/\Ae .u8 a.f24=ZB/\Ae .u8 a.f25=ZB/\Ae .u8 a.f26=ZB/\Ae .u8 a.f27=ZB/\Ae .u8 a.f28=ZB/\Ae .u8 a.f29=ZB/\Ae .u8 a.f30=ZB/\Ae .u8 a.f31=ZB/\Ae .u8 a.f32=ZB/\Ae .u8 a.f33=ZB/\Ae .u8 a.f34=ZB/\Ae .u8 a.f35=ZB/\Ae .u8 a.f36=ZB/\Ae .u8 a.f37=ZB/\Ae .u8 a.f38=ZB/\Ae .u8 a.f39=ZB/\Ae .u8 a.f40=ZB/\Ae .u8 a.f41=ZB/\Ae .u8 a.f42=ZB/\Ae .u8 a.f43=ZB/\Ae .u8 a.f44=ZB/\Ae .u8 a.f45=ZB/\Ae .u8 a.f46=ZB/\Ae .u8 a.f47=ZB/\Ae .u8 a.f48=ZB/\Ae .u8 a.f49=ZB/\Ae .u8 a.f50=ZB/\Ae .u8 a.f51=ZB/\Ae .u8 a.f52=ZB/\Ae .u8 a.f53=ZB/\Ae .u8 a.f54=ZB/\Ae .u8 a.f55=ZB/\Ae .u8 a.f56=ZB/\Ae .u8 a.f57=ZB/\Ae .u8 a.f58=ZB/\Ae .u8 a.f59=ZB/\Ae .u8 a.f60=ZB/\Ae .u8 a.f61=ZB/\Ae .u8 a.f62=ZB/\Ae .u8 a.f63=ZB
def kF64:List CK:=[.int .u8,.int .u8,.int .u8,.int .u8,.int .u8,.int .u8,.int .u8,.int .u8,.int .u8,.int .u8,.int .u8,.int .u8,.int .u8,.int .u8,.int .u8,.int .u8,.int .u8,.int .u8,.int .u8,.int .u8,.int .u8,.int .u8,.int .u8,.int .u8,.int .u8,.int .u8,.int .u8,.int .u8,.int .u8,.int .u8,.int .u8,.int .u8,.int .u8,.int .u8,.int .u8,.int .u8,.int .u8,.int .u8,.int .u8,.int .u8,.int .u8,.int .u8,.int .u8,.int .u8,.int .u8,.int .u8,.int .u8,.int .u8,.int .u8,.int .u8,.int .u8,.int .u8,.int .u8,.int .u8,.int .u8,.int .u8,.int .u8,.int .u8,.int .u8,.int .u8,.int .u8,.int .u8,.int .u8,.int .u8]
def v_F64(t:List VK):List VK:=.int .u8::.int .u8::.int .u8::.int .u8::.int .u8::.int .u8::.int .u8::.int .u8::.int .u8::.int .u8::.int .u8::.int .u8::.int .u8::.int .u8::.int .u8::.int .u8::.int .u8::.int .u8::.int .u8::.int .u8::.int .u8::.int .u8::.int .u8::.int .u8::.int .u8::.int .u8::.int .u8::.int .u8::.int .u8::.int .u8::.int .u8::.int .u8::.int .u8::.int .u8::.int .u8::.int .u8::.int .u8::.int .u8::.int .u8::.int .u8::.int .u8::.int .u8::.int .u8::.int .u8::.int .u8::.int .u8::.int .u8::.int .u8::.int .u8::.int .u8::.int .u8::.int .u8::.int .u8::.int .u8::.int .u8::.int .u8::.int .u8::.int .u8::.int .u8::.int .u8::.int .u8::.int .u8::.int .u8::.int .u8::t
def d_F64(a:F64)(t:List Dt):List Dt:=.z a.f0::.z a.f1::.z a.f2::.z a.f3::.z a.f4::.z a.f5::.z a.f6::.z a.f7::.z a.f8::.z a.f9::.z a.f10::.z a.f11::.z a.f12::.z a.f13::.z a.f14::.z a.f15::.z a.f16::.z a.f17::.z a.f18::.z a.f19::.z a.f20::.z a.f21::.z a.f22::.z a.f23::.z a.f24::.z a.f25::.z a.f26::.z a.f27::.z a.f28::.z a.f29::.z a.f30::.z a.f31::.z a.f32::.z a.f33::.z a.f34::.z a.f35::.z a.f36::.z a.f37::.z a.f38::.z a.f39::.z a.f40::.z a.f41::.z a.f42::.z a.f43::.z a.f44::.z a.f45::.z a.f46::.z a.f47::.z a.f48::.z a.f49::.z a.f50::.z a.f51::.z a.f52::.z a.f53::.z a.f54::.z a.f55::.z a.f56::.z a.f57::.z a.f58::.z a.f59::.z a.f60::.z a.f61::.z a.f62::.z a.f63::t
def RH:=aI @v_F64.eq_1 (aI @d_F64.eq_1 (aI @rd_F64.eq_1 (@kF64.eq_1)))
def EA(m:JMd)(x:Ins):Int:=if x.br=ZB then[m.r0,m.r1,m.r2,m.r3,m.r4,m.r5,m.r6,m.r7,m.r8,m.r9,m.r10].getD x.s.toNat 0 else IntKind.u64.wrap x.imm
def f64(l:LL):F64:=⟨gt l 0 0,gt l 1 0,gt l 2 0,gt l 3 0,gt l 4 0,gt l 5 0,gt l 6 0,gt l 7 0,gt l 8 0,gt l 9 0,gt l 10 0,gt l 11 0,gt l 12 0,gt l 13 0,gt l 14 0,gt l 15 0,gt l 16 0,gt l 17 0,gt l 18 0,gt l 19 0,gt l 20 0,gt l 21 0,gt l 22 0,gt l 23 0,gt l 24 0,gt l 25 0,gt l 26 0,gt l 27 0,gt l 28 0,gt l 29 0,gt l 30 0,gt l 31 0,gt l 32 0,gt l 33 0,gt l 34 0,gt l 35 0,gt l 36 0,gt l 37 0,gt l 38 0,gt l 39 0,gt l 40 0,gt l 41 0,gt l 42 0,gt l 43 0,gt l 44 0,gt l 45 0,gt l 46 0,gt l 47 0,gt l 48 0,gt l 49 0,gt l 50 0,gt l 51 0,gt l 52 0,gt l 53 0,gt l 54 0,gt l 55 0,gt l 56 0,gt l 57 0,gt l 58 0,gt l 59 0,gt l 60 0,gt l 61 0,gt l 62 0,gt l 63 0⟩
def Xf(k:q2)(h:p->q=q2:=by intro e;(try simp only[e,ay,af,-eq_self]);rfl):p->q:=fun e=>(h e).symm▸k
def sV:List (Nat×TI):=[(2,CB),
 (3,CU),
 (4,EH),
 (5,KW),
 (22,vd),
 (24,vb),
 (25,aoJ),
 (26,aoI),
 (38,fT),
 (39,eX),
 (40,Xl),
 (60,Su),
 (61,QA),
 (63,SJ),
 (66,qP),
 (87,arH),
 (89,arG),
 (138,al4),
 (178,aeE)]
def eV:∀t i,(t,i)∈sV->TIok ZF t i:=bi (DX (z:=lQ) ⟨lj,ig⟩ B1) B1 (by kernel_rfl)
def c_rhol:Cd:=⟨60,[.one (.int .i8),.one (.int .i8),.one (.int .u64),.one (.int .u64)],[.one .bool,.one (.int .i64)],rdZ fun cc=>rdZ fun l=>rdZ fun x=>rdZ fun y _=>[.z (AE ((DY cc l&&lP cc l x y))),.z (if DY cc l=ZB then 0 else 2)],T0⟩
def ao6(cc:Int)(Cs:Ae .i8 cc=ZB)(l:Int)(hl:Ae .i8 l=ZB)(x:Int)(hx:Ae .u64 x=ZB)(y:Int)(hy:Ae .u64 y=ZB):(∀w,Calls ZF 60 #[.int .i8 cc,.int .i8 l,.int .u64 x,.int .u64 y] w fun e w'=>e=.returned (.tuple #[.bool ((DY cc l&&lP cc l x y)),.int .i64 (if DY cc l=ZB then 0 else 2)])/\Ext w w')/\fP (.tuple #[.bool ((DY cc l&&lP cc l x y)),.int .i64 (if DY cc l=ZB then 0 else 2)])=ZB:=by
 have gx:=cU hx;have gy:=cU hy;cases hk:DY cc l
 .refine⟨fun w=>(acR cc l x y w ?_).mono ?_,by simp[fP,fc,fg];decide⟩
  .unfold DY at hk;rw[Bool.and_eq_false_iff,Bool.and_eq_false_iff]at hk;rcases hk with(hk|hk)|hk
   .have:=Ab hk;simp;omega
   .have:=Ab hk;simp;omega
   .rw[hk];simp
  .rintro e w' ⟨rfl,rfl⟩;exact⟨by simp,Ext.refl _⟩
 .unfold DY at hk;simp only[ne,aB]at hk;refine⟨fun w=>(acS cc l x y w gx.1 gx.2 gy.1 gy.2 hk.1.1 hk.1.2 hk.2).mono ?_,by simp[fP,fc,fg];decide⟩;rintro e w' ⟨rfl,rfl⟩;exact⟨by simp,Ext.refl _⟩
def as1:c_rhol.Ok ZF:=fun hF hP=>by
 refine SmOk.pure (s:=c_rhol.m _) hF rfl rfl fun xs vals w h=> ?_;obtain⟨_,_,_,rfl,⟨x0,rfl,rfl,C8⟩,h⟩:=h;obtain⟨_,_,_,rfl,⟨x1,rfl,rfl,Du⟩,h⟩:=h;obtain⟨_,_,_,rfl,⟨x2,rfl,rfl,Gd⟩,h⟩:=h;obtain⟨_,_,_,rfl,⟨x3,rfl,rfl,Gj⟩,h⟩:=h;obtain⟨rfl,rfl⟩:=h;have q:=ao6 x0 C8 x1 Du x2 Gd x3 Gj;refine⟨_,.inr ⟨dD Tryz.func60 (by kernel_rfl) (by kernel_rfl) _ w,q.1 w⟩,?_,fun U v0 nid j he=> ?_⟩
 .have q2:=q.2;simp[fP,fc,fg]at q2;simp[c_rhol,Cd.m,tp,rdZ,rdB,rdL,ZR,ZU,Sh.cks,YR,ZO,ZQ,b2i_one,gE,q2]
 .simp only[c_rhol,Cd.m,tp,rdZ,rdB,rdL,ZR,ZU,Sh.cks,YR,ZO,ZQ,b2i_one,eqs,dI,dB,cy,lY,bJ,Nat.add_zero,ZD,and_true]at he;simp[c_rhol,Cd.m,tp,rdZ,rdB,rdL,ZR,ZU,Sh.cks,YR,ZO,ZQ,b2i_one,fY,bH,aE,V.den,C.den,Af,BL,cm,E.I,E.B,he]
def c_jsd:Cd:=⟨98,[.one (.int .i64)],[.one .bool],rdZ fun n _=>[.z (AE (aN n))],T0⟩
def amo:Tr:=
(.br (.eq (.w 0) (.p 1))
zlT
(.br (.eq (.w 0) (.p 2))
zlT
(.br (.eq (.w 0) (.p 4))
zlT
(.u (.j (.eq (.w 0) (.p 8)) .nil)))))
def atd:c_jsd.Ok ZF:=
 AT amo [.int .i64] eV AI Tryz.func98<|fun n hn hp U g=>by
 simp only[AB,ZD]at g;simp only[amo,c_jsd,Ai,ZH,ZD,-eq_self,ay,af,g]
 .repeat' first|apply aI<;>intro c|exact Xt
def kA:List Dt->Prop
 |[.z x0,.z x1,.z x2,.l x3]=>let f (at_:Int) (n:Int) (base:Int) (b:LL):Prop:=(1<=n/\n<=8)/\b.length<=1048576;f x0 x1 x2 x3
 |_=>False
def c_jwith:Cd:=⟨135,[.one (.int .u64),.one (.int .i64),.one (.int .u64),.one (.sl [ZA .u8] 5)],[.one (.int .i64),.one .bool],rdZ fun at_=>rdZ fun n=>rdZ fun base=>rdL fun b _=>[.z (Mz base b at_),.z (AE (inr base b at_ n))],kA⟩
def aaU:Tr:=
(.br (.lt (.w 0) (.w 2))
(.u (.cons (.p 0) (.j (.tt ZC) .nil)))
(.br (.lt (.f .sub .u64 (.w 0) (.w 2)) (.F .u64 (.len (.g 3))))
(.u (.cons (.F .i64 (.f .sub .u64 (.w 0) (.w 2))) (.j (.not (.lt (.f .sub .i64 (.len (.g 3)) (.F .i64 (.f .sub .u64 (.w 0) (.w 2)))) (.w 1))) .nil)))
(.u (.cons (.p 0) (.j (.tt ZC) .nil)))))
def ahI:c_jwith.Ok ZF:=
 AT (hl:=.inr (.inl ⟨(fun xs (h:kA xs) L hL=>by unfold kA at h;split at h<;>first|exact h.elim|(simp at hL;rcases hL with rfl;exact cX h.2 ST)),rfl⟩)) aaU [.int .u64,.int .i64,.int .u64,.list [ZA .u8]] eV AI Tryz.func135<|fun at_ IX n hn base Cr b hb hp U g=>by
 simp only[c_jwith,kA,b2i_one,ay,af]at hp;simp only[AB,ZD]at g;simp only[aaU,c_jwith,Ai,ZH,ZD,-eq_self,ay,af,g];have Jq:=(wW Cr).1;apply aI<;>intro c0
 .obtain⟨q1,q2⟩:=aus (l:=b) (n:=n) c0;rw[<-q1,<-q2]
 apply aI<;>intro c1
 .obtain⟨q1,q2⟩:=aut (l:=b) (n:=n) IX Jq hp.2 hp.1.1 hp.1.2 c0 c1;rw[q2,q1]
 .obtain⟨q1,q2⟩:=arw (l:=b) (n:=n) IX Jq hp.2 hp.1.1 c0 c1;rw[<-q1,<-q2]
def jK:List Dt->Prop
 |[.l x0,.l x1,.l x2,.l x3,.z x4,.z x5]=>let f (m:JMem) (at_:Int) (n:Int):Prop:=m.l0=[]/\m.l1.length<=256/\m.l2.length=64/\m.l3=[];f ⟨x0,x1,x2,x3⟩ x4 x5
 |_=>False
def c_jmread:Cd:=⟨57,[.ptr kJMem,.one (.int .u64),.one (.int .i64)],[.one (.int .u64),.one (.int .i64)],rd_JMem fun m=>rdZ fun at_=>rdZ fun n _=>[.z (Fu (Gb m.l0 m.l1 m.l2 m.l3) at_ n),.z (H4 (Gb m.l0 m.l1 m.l2 m.l3) at_ n)],jK⟩
def Te:E:=(.cons (.p 0) (.cons (.f .sub .i64 (.w 5) (.p 1)) .nil))
def pE:Tr:=
(.call 0 [.bool] (.cons (.w 5) .nil) 6
(.br (.s 6)
(.call 1 [.int .i64,.bool] (.vs 4 2 (.cons (.p 1048576) (.N (.g 0) .nil))) 7
(.br (.s 8)
(.loop 0 9 [.int .u64,.int .i64] Te
(.br (.lt (.w 10) (.p 0))
(.u (.cons (.w 9) (.cons (.p 0) .nil)))
(.br (.lt (.f .add .i64 (.w 7) (.w 10)) (.p 0))
.panic
(.br (.lt (.f .add .i64 (.w 7) (.w 10)) (.len (.g 0)))
(.next 0 (.cons (.f .or .u64 (.f .shl .u64 (.w 9) (.p 8)) (.F .u64 (.get (.g 0) (.f .add .i64 (.w 7) (.w 10)) 0))) (.cons (.f .sub .i64 (.w 10) (.p 1)) .nil)))
.panic))))
(.call 1 [.int .i64,.bool] (.vs 4 2 (.cons (.p 2097152) (.N (.g 1) .nil))) 9
(.br (.s 10)
(.loop 0 11 [.int .u64,.int .i64] Te
(.br (.lt (.w 12) (.p 0))
(.u (.cons (.w 11) (.cons (.p 0) .nil)))
(.br (.lt (.f .add .i64 (.w 9) (.w 12)) (.p 0))
.panic
(.br (.lt (.f .add .i64 (.w 9) (.w 12)) (.len (.g 1)))
(.next 0 (.cons (.f .or .u64 (.f .shl .u64 (.w 11) (.p 8)) (.F .u64 (.get (.g 1) (.f .add .i64 (.w 9) (.w 12)) 0))) (.cons (.f .sub .i64 (.w 12) (.p 1)) .nil)))
.panic))))
(.call 1 [.int .i64,.bool] (.vs 4 2 (.cons (.p 3145728) (.N (.g 2) .nil))) 11
(.br (.s 12)
(.loop 0 13 [.int .u64,.int .i64] Te
(.br (.lt (.w 14) (.p 0))
(.u (.cons (.w 13) (.cons (.p 0) .nil)))
(.br (.lt (.f .add .i64 (.w 11) (.w 14)) (.p 0))
.panic
(.br (.lt (.f .add .i64 (.w 11) (.w 14)) (.len (.g 2)))
(.next 0 (.cons (.f .or .u64 (.f .shl .u64 (.w 13) (.p 8)) (.F .u64 (.get (.g 2) (.f .add .i64 (.w 11) (.w 14)) 0))) (.cons (.f .sub .i64 (.w 14) (.p 1)) .nil)))
.panic))))
(.call 1 [.int .i64,.bool] (.vs 4 2 (.cons (.p 4194304) (.N (.g 3) .nil))) 13
(.br (.s 14)
(.loop 0 15 [.int .u64,.int .i64] Te
(.br (.lt (.w 16) (.p 0))
(.u (.cons (.w 15) (.cons (.p 0) .nil)))
(.br (.lt (.f .add .i64 (.w 13) (.w 16)) (.p 0))
.panic
(.br (.lt (.f .add .i64 (.w 13) (.w 16)) (.len (.g 3)))
(.next 0 (.cons (.f .or .u64 (.f .shl .u64 (.w 15) (.p 8)) (.F .u64 (.get (.g 3) (.f .add .i64 (.w 13) (.w 16)) 0))) (.cons (.f .sub .i64 (.w 16) (.p 1)) .nil)))
.panic))))
(.u (.cons (.p 0) (.cons (.p 20) .nil)))))))))))
(.u (.cons (.p 0) (.cons (.p 2) .nil)))))
def agp:cb sV (FJ 0 [c_jsd,c_jwith]) [(99,Tryz.f99,[],[])] [(10,[.tmpI 11 .u64,.tmpI 12 .i64]++E1 [(30,14)]),(999998,[])] [] 200 Tryz.f57 c_jmread.a c_jmread.r (tp c_jmread.r) (v_JMem [.int .u64,.int .i64]) pE:=E0 (by kernel_rfl)
def ak2:c_jmread.Ok ZF:=
 GE (hl:=.inr (.inl ⟨(fun xs (h:jK xs) L hL=>by unfold jK at h;split at h<;>first|exact h.elim|(simp at hL;rcases hL with rfl|rfl|rfl|rfl;exact cX (Nat.le_of_eq (congrArg List.length h.1)) ST;exact cX h.2.1 ST;exact cX (Nat.le_of_eq h.2.2.1) ST;exact cX (Nat.le_of_eq (congrArg List.length h.2.2.2)) ST)),rfl⟩)) pE (v_JMem [.int .u64,.int .i64]) eV (Am atd<|Am ahI AI) Tryz.func57 (GB Tryz.func99 E2) agp<|ur fun m hm=>fun at_ IX n hn hp U g=>by
 simp only[c_jmread,jK,jT,b2i_one,ay,af]at hp;have Aq:=g;simp only[jT,AB,ZD]at g;simp only[pE,Te,c_jsd,c_jwith,c_jmread,kA,jT,Ai,ZH,ZD,-eq_self,ay,af,g];obtain⟨R1,K4,MY,M4,RV,k0_i5⟩:=g;obtain⟨r0,r1,r2,r3⟩:=hm;have Om:m.l0.length<=1048576:=by rw[hp.1];decide
 have Gz:m.l1.length<=1048576:=cX hp.2.1 ST;have HC:m.l2.length<=1048576:=by rw[hp.2.2.1];decide
 have M3:m.l3.length<=1048576:=by rw[hp.2.2.2];decide
 refine Xf ?_;apply aI<;>intro c0;refine⟨?_,?_⟩
 .exact⟨by have:=bL c0;omega,Om⟩
 intro e;have QP:=e.1;(try simp only[e,ay,af,-eq_self]);clear e;apply aI<;>intro c1;have hs:aN n=ZB:=c0;have Lv:=bL hs;have f0:inr 1048576 m.l0 at_ n=ZB:=c1;have W:=Win.of f0 IX ST Om Fn Fn;refine⟨fun ds=>∃k:Nat,ds=[.z (CJ ((BQ 1048576 m.l0 at_ n).drop k)),.z ((k:Int)-1)]/\k<=n.toNat,fun ds=>(dI ds 1+1).toNat,⟨n.toNat,by rw[JI Fn Fn,List.drop_eq_nil_of_le Yf,show((n.toNat:Nat):Int)-1=n-1 by omega];rfl,ZK _⟩,?_⟩;intro U1 AZ _ Ba;obtain⟨k,Bp,hk⟩:=Ba;simp only[Be,Mv,and_true]at Bp;obtain⟨Ep,D7⟩:=Bp;have Rc:=kL AZ R1;have R5:U1.i 7=at_-1048576:=(kI AZ QP).trans (ri f0 Fn);simp only[Ep,D7,Rc,R5,-eq_self];apply aI<;>intro c2
 .have hs:aN n=ZB:=c0;have Lv:=bL hs;have f0:inr 1048576 m.l0 at_ n=ZB:=c1;obtain rfl:k=0:=by have:=Ah c2;omega
  simp[Fu,H4,Mem.reg,Gb,hs,f0]
 apply aI<;>intro c3
 .have w1:=W.lo;have w2:=W.hi;have w3:=W.len;obtain⟨j,rfl⟩:∃j,k=j+1:=⟨k-1,by have:=Ab c2;omega⟩
  rw[show(((j+1:Nat):Int)-1)=(j:Int) by omega,(W.byte Om Fn).1]at c3;exact absurd (Ah c3) Fn
 apply aI<;>intro c4
 .obtain⟨j,rfl⟩:∃j,k=j+1:=⟨k-1,by have:=Ab c2;omega⟩
  exact W.next Om r0 hk
 .have w1:=W.lo;have w2:=W.hi;have w3:=W.len;obtain⟨j,rfl⟩:∃j,k=j+1:=⟨k-1,by have:=Ab c2;omega⟩
  rw[show(((j+1:Nat):Int)-1)=(j:Int) by omega,(W.byte Om Fn).1]at c4;exact absurd (Ab c4) Fn
 refine⟨?_,?_⟩
 .exact⟨by have:=bL c0;omega,Gz⟩
 intro e;have Tn:=e.1;(try simp only[e,ay,af,-eq_self]);clear e;apply aI<;>intro c5;have hs:aN n=ZB:=c0;have Lv:=bL hs;have f0:inr 1048576 m.l0 at_ n=ZC:=c1;have f1:inr 2097152 m.l1 at_ n=ZB:=c5;have W:=Win.of f1 IX ST Gz Fn Fn;refine⟨fun ds=>∃k:Nat,ds=[.z (CJ ((BQ 2097152 m.l1 at_ n).drop k)),.z ((k:Int)-1)]/\k<=n.toNat,fun ds=>(dI ds 1+1).toNat,⟨n.toNat,by rw[JI Fn Fn,List.drop_eq_nil_of_le Yf,show((n.toNat:Nat):Int)-1=n-1 by omega];rfl,ZK _⟩,?_⟩;intro U1 AZ _ Ba;obtain⟨k,Bp,hk⟩:=Ba;simp only[Be,Mv,and_true]at Bp;obtain⟨D3,Fe⟩:=Bp;have Jm:=kL AZ K4;have Ep:U1.i 9=at_-2097152:=(kI AZ Tn).trans (ri f1 Fn);simp only[D3,Fe,Jm,Ep,-eq_self];apply aI<;>intro c6
 .have hs:aN n=ZB:=c0;have Lv:=bL hs;have f0:inr 1048576 m.l0 at_ n=ZC:=c1;have f1:inr 2097152 m.l1 at_ n=ZB:=c5;obtain rfl:k=0:=by have:=Ah c6;omega
  simp[Fu,H4,Mem.reg,Gb,hs,f0,f1]
 apply aI<;>intro c7
 .have w1:=W.lo;have w2:=W.hi;have w3:=W.len;obtain⟨j,rfl⟩:∃j,k=j+1:=⟨k-1,by have:=Ab c6;omega⟩
  rw[show(((j+1:Nat):Int)-1)=(j:Int) by omega,(W.byte Gz Fn).1]at c7;exact absurd (Ah c7) Fn
 apply aI<;>intro c8
 .obtain⟨j,rfl⟩:∃j,k=j+1:=⟨k-1,by have:=Ab c6;omega⟩
  exact W.next Gz r1 hk
 .have w1:=W.lo;have w2:=W.hi;have w3:=W.len;obtain⟨j,rfl⟩:∃j,k=j+1:=⟨k-1,by have:=Ab c6;omega⟩
  rw[show(((j+1:Nat):Int)-1)=(j:Int) by omega,(W.byte Gz Fn).1]at c8;exact absurd (Ab c8) Fn
 refine⟨?_,?_⟩
 .exact⟨by have:=bL c0;omega,HC⟩
 intro e;have O6:=e.1;(try simp only[e,ay,af,-eq_self]);clear e;apply aI<;>intro c9;have hs:aN n=ZB:=c0;have Lv:=bL hs;have f0:inr 1048576 m.l0 at_ n=ZC:=c1;have f1:inr 2097152 m.l1 at_ n=ZC:=c5;have f2:inr 3145728 m.l2 at_ n=ZB:=c9;have W:=Win.of f2 IX ST HC Fn Fn;refine⟨fun ds=>∃k:Nat,ds=[.z (CJ ((BQ 3145728 m.l2 at_ n).drop k)),.z ((k:Int)-1)]/\k<=n.toNat,fun ds=>(dI ds 1+1).toNat,⟨n.toNat,by rw[JI Fn Fn,List.drop_eq_nil_of_le Yf,show((n.toNat:Nat):Int)-1=n-1 by omega];rfl,ZK _⟩,?_⟩;intro U1 AZ _ Ba;obtain⟨k,Bp,hk⟩:=Ba;simp only[Be,Mv,and_true]at Bp;obtain⟨D4,E5⟩:=Bp;have QJ:=kL AZ MY;have D3:U1.i 11=at_-3145728:=(kI AZ O6).trans (ri f2 Fn);simp only[D4,E5,QJ,D3,-eq_self];apply aI<;>intro BF
 .have hs:aN n=ZB:=c0;have Lv:=bL hs;have f0:inr 1048576 m.l0 at_ n=ZC:=c1;have f1:inr 2097152 m.l1 at_ n=ZC:=c5;have f2:inr 3145728 m.l2 at_ n=ZB:=c9;obtain rfl:k=0:=by have:=Ah BF;omega
  simp[Fu,H4,Mem.reg,Gb,hs,f0,f1,f2]
 apply aI<;>intro CG
 .have w1:=W.lo;have w2:=W.hi;have w3:=W.len;obtain⟨j,rfl⟩:∃j,k=j+1:=⟨k-1,by have:=Ab BF;omega⟩
  rw[show(((j+1:Nat):Int)-1)=(j:Int) by omega,(W.byte HC Fn).1]at CG;exact absurd (Ah CG) Fn
 apply aI<;>intro Ca
 .obtain⟨j,rfl⟩:∃j,k=j+1:=⟨k-1,by have:=Ab BF;omega⟩
  exact W.next HC r2 hk
 .have w1:=W.lo;have w2:=W.hi;have w3:=W.len;obtain⟨j,rfl⟩:∃j,k=j+1:=⟨k-1,by have:=Ab BF;omega⟩
  rw[show(((j+1:Nat):Int)-1)=(j:Int) by omega,(W.byte HC Fn).1]at Ca;exact absurd (Ab Ca) Fn
 refine⟨?_,?_⟩
 .exact⟨by have:=bL c0;omega,M3⟩
 intro e;have NI:=e.1;(try simp only[e,ay,af,-eq_self]);clear e;apply aI<;>intro Cp;have hs:aN n=ZB:=c0;have Lv:=bL hs;have f0:inr 1048576 m.l0 at_ n=ZC:=c1;have f1:inr 2097152 m.l1 at_ n=ZC:=c5;have f2:inr 3145728 m.l2 at_ n=ZC:=c9;have f3:inr 4194304 m.l3 at_ n=ZB:=Cp;have W:=Win.of f3 IX ST M3 Fn Fn;refine⟨fun ds=>∃k:Nat,ds=[.z (CJ ((BQ 4194304 m.l3 at_ n).drop k)),.z ((k:Int)-1)]/\k<=n.toNat,fun ds=>(dI ds 1+1).toNat,⟨n.toNat,by rw[JI Fn Fn,List.drop_eq_nil_of_le Yf,show((n.toNat:Nat):Int)-1=n-1 by omega];rfl,ZK _⟩,?_⟩;intro U1 AZ _ Ba;obtain⟨k,Bp,hk⟩:=Ba;simp only[Be,Mv,and_true]at Bp;obtain⟨Fh,FO⟩:=Bp;have Tt:=kL AZ M4;have D4:U1.i 13=at_-4194304:=(kI AZ NI).trans (ri f3 Fn);simp only[Fh,FO,Tt,D4,-eq_self];apply aI<;>intro CD
 .have hs:aN n=ZB:=c0;have Lv:=bL hs;have f0:inr 1048576 m.l0 at_ n=ZC:=c1;have f1:inr 2097152 m.l1 at_ n=ZC:=c5;have f2:inr 3145728 m.l2 at_ n=ZC:=c9;have f3:inr 4194304 m.l3 at_ n=ZB:=Cp;obtain rfl:k=0:=by have:=Ah CD;omega
  simp[Fu,H4,Mem.reg,Gb,hs,f0,f1,f2,f3]
 apply aI<;>intro C3
 .have w1:=W.lo;have w2:=W.hi;have w3:=W.len;obtain⟨j,rfl⟩:∃j,k=j+1:=⟨k-1,by have:=Ab CD;omega⟩
  rw[show(((j+1:Nat):Int)-1)=(j:Int) by omega,(W.byte M3 Fn).1]at C3;exact absurd (Ah C3) Fn
 apply aI<;>intro Dk
 .obtain⟨j,rfl⟩:∃j,k=j+1:=⟨k-1,by have:=Ab CD;omega⟩
  exact W.next M3 r3 hk
 .have w1:=W.lo;have w2:=W.hi;have w3:=W.len;obtain⟨j,rfl⟩:∃j,k=j+1:=⟨k-1,by have:=Ab CD;omega⟩
  rw[show(((j+1:Nat):Int)-1)=(j:Int) by omega,(W.byte M3 Fn).1]at Dk;exact absurd (Ab Dk) Fn
 .have hs:aN n=ZB:=c0;have Lv:=bL hs;have f0:inr 1048576 m.l0 at_ n=ZC:=c1;have f1:inr 2097152 m.l1 at_ n=ZC:=c5;have f2:inr 3145728 m.l2 at_ n=ZC:=c9;have f3:inr 4194304 m.l3 at_ n=ZC:=Cp;simp[Fu,H4,Mem.reg,Gb,hs,f0,f1,f2,f3]
 .have hs:aN n=ZC:=c0;simp[Fu,H4,hs]
def pL:List Dt->Prop
 |[.z x0,.z x1,.z x2,.z x3,.z x4,.z x5,.z x6,.z x7,.z x8]=>let f (x:Ins):Prop:=A3 x=ZB;f ⟨x0,x1,x2,x3,(x4==1),x5,x6,x7,x8⟩
 |_=>False
def c_jreads:Cd:=⟨53,[.agg kIns],[.one (.int .i64)],rd_Ins fun x _=>[.z (bc x)],pL⟩
def anx:Tr:=(.br (.lt (.w 6) (.p 0))
.panic
(.u (.cons (.f .or .i64 (.f .shl .i64 (.p 1) (.w 5)) (.f .shl .i64 (.p 1) (.w 6))) .nil)))
def anz:Tr:=(.br (.lt (.w 5) (.p 0))
.panic
(.br (.s 4)
anx
(.u (.cons (.f .shl .i64 (.p 1) (.w 5)) .nil))))
def pD:Tr:=
(.br (.eq (.w 0) (.p 0))
(.br (.eq (.w 1) (.p 11))
(.br (.s 4)
(.br (.lt (.w 6) (.p 0))
.panic
(.u (.cons (.f .or .i64 (.p 0) (.f .shl .i64 (.p 1) (.w 6))) .nil)))
(.u (.cons (.p 0) .nil)))
anz)
(.br (.eq (.w 0) (.p 1))
(.br (.lt (.w 6) (.p 0))
.panic
(.u (.cons (.f .shl .i64 (.p 1) (.w 6)) .nil)))
(.br (.eq (.w 0) (.p 2))
(.br (.lt (.w 5) (.p 0))
.panic
anx)
(.br (.eq (.w 0) (.p 3))
anz
(.br (.eq (.w 0) (.p 5))
(.loop 0 9 [.int .i64,.int .i64] (.cons (.p 1) (.cons (.p 0) .nil))
(.call 0 [.int .i64] (.cons (.w 8) .nil) 11
(.br (.lt (.w 11) (.w 9))
(.u (.cons (.w 10) .nil))
(.br (.lt (.w 9) (.p 0))
.panic
(.next 0 (.cons (.f .add .i64 (.w 9) (.p 1)) (.cons (.f .or .i64 (.w 10) (.f .shl .i64 (.p 1) (.w 9))) .nil)))))))
(.br (.eq (.w 0) (.p 6))
(.u (.cons (.p 1) .nil))
(.u (.cons (.p 0) .nil))))))))
def ago:cb sV (FJ 0 [c_jargs]) [] [(18,[.tmpI 4 .i64,.tmpI 3 .i64]++E1 [(50,11)])] [] 200 Tryz.f53 c_jreads.a c_jreads.r (tp c_jreads.r) (v_Ins []) pD:=E0 (by kernel_rfl)
def ak1:c_jreads.Ok ZF:=
 GE pD (v_Ins []) eV (Am ahL AI) Tryz.func53 E2 ago<|iR fun x hx hp U g=>by
 simp only[c_jreads,pL,eu,b2i_one,ay,af]at hp;have Aq:=g;simp only[eu,AB,ZD]at g;simp only[pD,anz,anx,c_jargs,c_jreads,eu,Ai,ZH,ZD,-eq_self,ay,af,g];apply aI<;>intro c0;apply aI<;>intro c1;apply aI<;>intro c2;apply aI<;>intro c3
 .exact XD
 .exact XG
 .exact XG
 apply aI<;>intro c4
 .exact XD
 apply aI<;>intro c5;apply aI<;>intro c6
 .exact XD
 .exact XG
 .exact XG
 apply aI<;>intro c7;apply aI<;>intro c8
 .exact XD
 .exact XG
 apply aI<;>intro c9;apply aI<;>intro BF
 .exact XD
 apply aI<;>intro CG
 .exact XD
 .exact XG
 apply aI<;>intro Ca;apply aI<;>intro Cp
 .exact XD
 apply aI<;>intro CD;apply aI<;>intro C3
 .exact XD
 .exact XG
 .exact XG
 apply aI<;>intro Dk;have hA:=fI x.imm;refine⟨fun ds=>∃k:Nat,ds=[.z (k:Int),.z ((2 ^ k-2:Nat):Int)]/\1<=k/\(k:Int)<=fJ x.imm+1,fun ds=>7-(dI ds 0).toNat,⟨1,rfl,by omega,by omega⟩,?_⟩;intro U1 AZ _ Ba;obtain⟨k,Bp,h1,h2⟩:=Ba;simp only[Be,Mv,and_true]at Bp;obtain⟨Ep,D7⟩:=Bp;have Sr:U1.i 8=x.imm:=(AZ 8 ST).1.symm.trans (by simp only[g]);simp only[Sr,Ep,D7,-eq_self];refine Xf ?_;apply aI<;>intro Dg
 .have q:=Ah Dg;have hk:k=1\/k=2\/k=3\/k=4\/k=5\/k=6:=Fn;have D1:fJ x.imm=(k:Int)-1:=Fn;have h5:=Br Dk;unfold bc;rw[D1];simp only[h5];rcases hk with rfl|rfl|rfl|rfl|rfl|rfl<;>rfl
 apply aI<;>intro Dh
 .exact absurd (Ah Dh) Fn
 .have q:=Ab Dg;have hk:k=1\/k=2\/k=3\/k=4\/k=5:=Fn;rcases hk with rfl|rfl|rfl|rfl|rfl
  .exact⟨⟨2,rfl,by omega,by omega⟩,by decide⟩
  .exact⟨⟨3,rfl,by omega,by omega⟩,by decide⟩
  .exact⟨⟨4,rfl,by omega,by omega⟩,by decide⟩
  .exact⟨⟨5,rfl,by omega,by omega⟩,by decide⟩
  .exact⟨⟨6,rfl,by omega,by omega⟩,by decide⟩
 apply aI<;>intro DB
 .exact XG
 .exact XG
def yw:List Dt->Prop
 |[.z x0,.z x1,.z x2,.z x3,.z x4,.z x5,.z x6,.z x7,.z x8,.z x9,.z JH,.z Le,.z MD,.z N4,.z PA,.z Oz,.z N8,.z Nm,.z OW,.z QX]=>let f (m:JMd) (x:Ins):Prop:=x.br=ZB->0<=x.s/\x.s<=10;f ⟨x0,x1,x2,x3,x4,x5,x6,x7,x8,x9,JH⟩ ⟨Le,MD,N4,PA,(Oz==1),N8,Nm,OW,QX⟩
 |_=>False
def c_jsec:Cd:=⟨55,[.ptr kJMd,.agg kIns],[.one (.int .u64)],rd_JMd fun m=>rd_Ins fun x _=>[.z (EA m x)],yw⟩
def agc:Tr:=
(.br (.s 15)
(.br (.eq (.w 17) (.p 0))
(.u (.cons (.w 0) .nil))
(.br (.eq (.w 17) (.p 1))
(.u (.cons (.w 1) .nil))
(.br (.eq (.w 17) (.p 2))
(.u (.cons (.w 2) .nil))
(.br (.eq (.w 17) (.p 3))
(.u (.cons (.w 3) .nil))
(.br (.eq (.w 17) (.p 4))
(.u (.cons (.w 4) .nil))
(.br (.eq (.w 17) (.p 5))
(.u (.cons (.w 5) .nil))
(.br (.eq (.w 17) (.p 6))
(.u (.cons (.w 6) .nil))
(.br (.eq (.w 17) (.p 7))
(.u (.cons (.w 7) .nil))
(.br (.eq (.w 17) (.p 8))
(.u (.cons (.w 8) .nil))
(.br (.eq (.w 17) (.p 9))
(.u (.cons (.w 9) .nil))
(.br (.eq (.w 17) (.p 10))
(.u (.cons (.w 10) .nil))
.panic)))))))))))
(.u (.cons (.F .u64 (.w 19)) .nil)))
def atc:c_jsec.Ok ZF:=
 AT agc (v_JMd (v_Ins [])) eV AI Tryz.func55<|aqR fun m hm=>iR fun x hx hp U g=>by
 simp only[c_jsec,yw,Ti,eu,b2i_one,ay,af]at hp;simp only[Ti,eu,AB,ZD]at g;simp only[agc,c_jsec,Ti,eu,Ai,ZH,ZD,-eq_self,ay,af,g];apply aI<;>intro c0;apply aI<;>intro c1
 ·(unfold EA;rw[c0,Br c1];rfl)
 apply aI<;>intro c2
 ·(unfold EA;rw[c0,Br c2];rfl)
 apply aI<;>intro c3
 ·(unfold EA;rw[c0,Br c3];rfl)
 apply aI<;>intro c4
 ·(unfold EA;rw[c0,Br c4];rfl)
 apply aI<;>intro c5
 ·(unfold EA;rw[c0,Br c5];rfl)
 apply aI<;>intro c6
 ·(unfold EA;rw[c0,Br c6];rfl)
 apply aI<;>intro c7
 ·(unfold EA;rw[c0,Br c7];rfl)
 apply aI<;>intro c8
 ·(unfold EA;rw[c0,Br c8];rfl)
 apply aI<;>intro c9
 ·(unfold EA;rw[c0,Br c9];rfl)
 apply aI<;>intro BF
 ·(unfold EA;rw[c0,Br BF];rfl)
 apply aI<;>intro CG
 ·(unfold EA;rw[c0,Br CG];rfl)
 ·(have q:=hp c0;have n0:=Cc c1;have n1:=Cc c2;have n2:=Cc c3;have n3:=Cc c4;have n4:=Cc c5;have n5:=Cc c6;have n6:=Cc c7;have n7:=Cc c8;have n8:=Cc c9;have n9:=Cc BF;have n10:=Cc CG;omega)
 ·(unfold EA;rw[c0];rfl)
def kB:List Dt->Prop
 |[.l x0]=>let f (b:LL):Prop:=b.length<=1048576;f x0
 |_=>False
def c_jsame:Cd:=⟨62,[.one (.sl [ZA .u8] 5)],[.one (.sl [ZA .u8] 5)],rdL fun b _=>[.l b],kB⟩
def aaV:Tr:=
(.br (.lt (.len (.g 0)) (.p 1073741824))
(.u (.N (.g 0) .nil))
.panic)
def ahJ:c_jsame.Ok ZF:=
 AT (hl:=.inr (.inl ⟨(fun xs (h:kB xs) L hL=>by unfold kB at h;split at h<;>first|exact h.elim|(simp at hL;rcases hL with rfl;exact cX h ST)),rfl⟩)) aaV [.list [ZA .u8]] eV AI Tryz.func62<|fun b hb hp U g=>by
 simp only[c_jsame,kB,b2i_one,ay,af]at hp;simp only[AB,ZD]at g;simp only[aaV,c_jsame,Ai,ZH,ZD,-eq_self,ay,af,g];apply aI<;>intro c0
 .rfl
 ·(have q:=Ab c0;omega)
def jL:List Dt->Prop
 |[.l x0,.l x1,.l x2,.l x3]=>let f (m:JMem):Prop:=m.l0=[]/\m.l1.length<=256/\m.l2.length=64/\m.l3=[];f ⟨x0,x1,x2,x3⟩
 |_=>False
def c_jframe:Cd:=⟨59,[.ptr kJMem],[.agg kF64],rd_JMem fun m _=>d_F64 (f64 m.l2) [],jL⟩
def pF:Tr:=
(.br (.lt (.p 0) (.len (.g 2)))
(.br (.lt (.p 1) (.len (.g 2)))
(.br (.lt (.p 2) (.len (.g 2)))
(.br (.lt (.p 3) (.len (.g 2)))
(.br (.lt (.p 4) (.len (.g 2)))
(.br (.lt (.p 5) (.len (.g 2)))
(.br (.lt (.p 6) (.len (.g 2)))
(.br (.lt (.p 7) (.len (.g 2)))
(.br (.lt (.p 8) (.len (.g 2)))
(.br (.lt (.p 9) (.len (.g 2)))
(.br (.lt (.p 10) (.len (.g 2)))
(.br (.lt (.p 11) (.len (.g 2)))
(.br (.lt (.p 12) (.len (.g 2)))
(.br (.lt (.p 13) (.len (.g 2)))
(.br (.lt (.p 14) (.len (.g 2)))
(.br (.lt (.p 15) (.len (.g 2)))
(.br (.lt (.p 16) (.len (.g 2)))
(.br (.lt (.p 17) (.len (.g 2)))
(.br (.lt (.p 18) (.len (.g 2)))
(.br (.lt (.p 19) (.len (.g 2)))
(.br (.lt (.p 20) (.len (.g 2)))
(.br (.lt (.p 21) (.len (.g 2)))
(.br (.lt (.p 22) (.len (.g 2)))
(.br (.lt (.p 23) (.len (.g 2)))
(.br (.lt (.p 24) (.len (.g 2)))
(.br (.lt (.p 25) (.len (.g 2)))
(.br (.lt (.p 26) (.len (.g 2)))
(.br (.lt (.p 27) (.len (.g 2)))
(.br (.lt (.p 28) (.len (.g 2)))
(.br (.lt (.p 29) (.len (.g 2)))
(.br (.lt (.p 30) (.len (.g 2)))
(.br (.lt (.p 31) (.len (.g 2)))
(.br (.lt (.p 32) (.len (.g 2)))
(.br (.lt (.p 33) (.len (.g 2)))
(.br (.lt (.p 34) (.len (.g 2)))
(.br (.lt (.p 35) (.len (.g 2)))
(.br (.lt (.p 36) (.len (.g 2)))
(.br (.lt (.p 37) (.len (.g 2)))
(.br (.lt (.p 38) (.len (.g 2)))
(.br (.lt (.p 39) (.len (.g 2)))
(.br (.lt (.p 40) (.len (.g 2)))
(.br (.lt (.p 41) (.len (.g 2)))
(.br (.lt (.p 42) (.len (.g 2)))
(.br (.lt (.p 43) (.len (.g 2)))
(.br (.lt (.p 44) (.len (.g 2)))
(.br (.lt (.p 45) (.len (.g 2)))
(.br (.lt (.p 46) (.len (.g 2)))
(.br (.lt (.p 47) (.len (.g 2)))
(.br (.lt (.p 48) (.len (.g 2)))
(.br (.lt (.p 49) (.len (.g 2)))
(.br (.lt (.p 50) (.len (.g 2)))
(.br (.lt (.p 51) (.len (.g 2)))
(.br (.lt (.p 52) (.len (.g 2)))
(.br (.lt (.p 53) (.len (.g 2)))
(.br (.lt (.p 54) (.len (.g 2)))
(.br (.lt (.p 55) (.len (.g 2)))
(.br (.lt (.p 56) (.len (.g 2)))
(.br (.lt (.p 57) (.len (.g 2)))
(.br (.lt (.p 58) (.len (.g 2)))
(.br (.lt (.p 59) (.len (.g 2)))
(.br (.lt (.p 60) (.len (.g 2)))
(.br (.lt (.p 61) (.len (.g 2)))
(.br (.lt (.p 62) (.len (.g 2)))
(.br (.lt (.p 63) (.len (.g 2)))
(.u (.cons (.get (.g 2) (.p 0) 0) (.cons (.get (.g 2) (.p 1) 0) (.cons (.get (.g 2) (.p 2) 0) (.cons (.get (.g 2) (.p 3) 0) (.cons (.get (.g 2) (.p 4) 0) (.cons (.get (.g 2) (.p 5) 0) (.cons (.get (.g 2) (.p 6) 0) (.cons (.get (.g 2) (.p 7) 0) (.cons (.get (.g 2) (.p 8) 0) (.cons (.get (.g 2) (.p 9) 0) (.cons (.get (.g 2) (.p 10) 0) (.cons (.get (.g 2) (.p 11) 0) (.cons (.get (.g 2) (.p 12) 0) (.cons (.get (.g 2) (.p 13) 0) (.cons (.get (.g 2) (.p 14) 0) (.cons (.get (.g 2) (.p 15) 0) (.cons (.get (.g 2) (.p 16) 0) (.cons (.get (.g 2) (.p 17) 0) (.cons (.get (.g 2) (.p 18) 0) (.cons (.get (.g 2) (.p 19) 0) (.cons (.get (.g 2) (.p 20) 0) (.cons (.get (.g 2) (.p 21) 0) (.cons (.get (.g 2) (.p 22) 0) (.cons (.get (.g 2) (.p 23) 0) (.cons (.get (.g 2) (.p 24) 0) (.cons (.get (.g 2) (.p 25) 0) (.cons (.get (.g 2) (.p 26) 0) (.cons (.get (.g 2) (.p 27) 0) (.cons (.get (.g 2) (.p 28) 0) (.cons (.get (.g 2) (.p 29) 0) (.cons (.get (.g 2) (.p 30) 0) (.cons (.get (.g 2) (.p 31) 0) (.cons (.get (.g 2) (.p 32) 0) (.cons (.get (.g 2) (.p 33) 0) (.cons (.get (.g 2) (.p 34) 0) (.cons (.get (.g 2) (.p 35) 0) (.cons (.get (.g 2) (.p 36) 0) (.cons (.get (.g 2) (.p 37) 0) (.cons (.get (.g 2) (.p 38) 0) (.cons (.get (.g 2) (.p 39) 0) (.cons (.get (.g 2) (.p 40) 0) (.cons (.get (.g 2) (.p 41) 0) (.cons (.get (.g 2) (.p 42) 0) (.cons (.get (.g 2) (.p 43) 0) (.cons (.get (.g 2) (.p 44) 0) (.cons (.get (.g 2) (.p 45) 0) (.cons (.get (.g 2) (.p 46) 0) (.cons (.get (.g 2) (.p 47) 0) (.cons (.get (.g 2) (.p 48) 0) (.cons (.get (.g 2) (.p 49) 0) (.cons (.get (.g 2) (.p 50) 0) (.cons (.get (.g 2) (.p 51) 0) (.cons (.get (.g 2) (.p 52) 0) (.cons (.get (.g 2) (.p 53) 0) (.cons (.get (.g 2) (.p 54) 0) (.cons (.get (.g 2) (.p 55) 0) (.cons (.get (.g 2) (.p 56) 0) (.cons (.get (.g 2) (.p 57) 0) (.cons (.get (.g 2) (.p 58) 0) (.cons (.get (.g 2) (.p 59) 0) (.cons (.get (.g 2) (.p 60) 0) (.cons (.get (.g 2) (.p 61) 0) (.cons (.get (.g 2) (.p 62) 0) (.cons (.get (.g 2) (.p 63) 0) .nil)))))))))))))))))))))))))))))))))))))))))))))))))))))))))))))))))
.panic)
.panic)
.panic)
.panic)
.panic)
.panic)
.panic)
.panic)
.panic)
.panic)
.panic)
.panic)
.panic)
.panic)
.panic)
.panic)
.panic)
.panic)
.panic)
.panic)
.panic)
.panic)
.panic)
.panic)
.panic)
.panic)
.panic)
.panic)
.panic)
.panic)
.panic)
.panic)
.panic)
.panic)
.panic)
.panic)
.panic)
.panic)
.panic)
.panic)
.panic)
.panic)
.panic)
.panic)
.panic)
.panic)
.panic)
.panic)
.panic)
.panic)
.panic)
.panic)
.panic)
.panic)
.panic)
.panic)
.panic)
.panic)
.panic)
.panic)
.panic)
.panic)
.panic)
.panic)
def agq:cb sV (FJ 0 []) [] [] [] 200 Tryz.f59 c_jframe.a c_jframe.r (tp c_jframe.r) (v_JMem []) pF:=E0 (by kernel_rfl)
def ak3:c_jframe.Ok ZF:=
 GE (hl:=.inr (.inl ⟨(fun xs (h:jL xs) L hL=>by unfold jL at h;split at h<;>first|exact h.elim|(simp at hL;rcases hL with rfl|rfl|rfl|rfl;exact cX (Nat.le_of_eq (congrArg List.length h.1)) ST;exact cX h.2.1 ST;exact cX (Nat.le_of_eq h.2.2.1) ST;exact cX (Nat.le_of_eq (congrArg List.length h.2.2.2)) ST)),rfl⟩)) pF (v_JMem []) eV AI Tryz.func59 E2 agq<|ur fun m hm hp U g=>by
 simp only[c_jframe,jL,jT,RH,b2i_one,ay,af]at hp;simp only[jT,RH,AB,ZD]at g;simp only[pF,c_jframe,jT,RH,Ai,ZH,ZD,-eq_self,ay,af,g];apply aI<;>intro c0;apply aI<;>intro c1;apply aI<;>intro c2;apply aI<;>intro c3;apply aI<;>intro c4;apply aI<;>intro c5;apply aI<;>intro c6;apply aI<;>intro c7;apply aI<;>intro c8;apply aI<;>intro c9;apply aI<;>intro BF;apply aI<;>intro CG;apply aI<;>intro Ca;apply aI<;>intro Cp;apply aI<;>intro CD;apply aI<;>intro C3;apply aI<;>intro Dk;apply aI<;>intro Dg;apply aI<;>intro Dh;apply aI<;>intro DB;apply aI<;>intro Dz;apply aI<;>intro EM;apply aI<;>intro FX;apply aI<;>intro G3;apply aI<;>intro HO;apply aI<;>intro Gk;apply aI<;>intro JD;apply aI<;>intro IA;apply aI<;>intro Jf;apply aI<;>intro Kd;apply aI<;>intro Kg;apply aI<;>intro Kt;apply aI<;>intro JM;apply aI<;>intro K6;apply aI<;>intro KM;apply aI<;>intro Ly;apply aI<;>intro LX;apply aI<;>intro Ko;apply aI<;>intro Lu;apply aI<;>intro LH;apply aI<;>intro KZ;apply aI<;>intro KR;apply aI<;>intro Kb;apply aI<;>intro JY;apply aI<;>intro LF;apply aI<;>intro Kh;apply aI<;>intro H9;apply aI<;>intro Ka;apply aI<;>intro Kc;apply aI<;>intro Kq;apply aI<;>intro J9;apply aI<;>intro Kj;apply aI<;>intro JR;apply aI<;>intro c53;apply aI<;>intro c54;apply aI<;>intro c55;apply aI<;>intro c56;apply aI<;>intro c57;apply aI<;>intro c58;apply aI<;>intro c59;apply aI<;>intro c60;apply aI<;>intro c61;apply aI<;>intro c62;apply aI<;>intro c63
 .rfl
 .exact absurd (Ab c63) Xn
 .exact absurd (Ab c62) Xn
 .exact absurd (Ab c61) Xn
 .exact absurd (Ab c60) Xn
 .exact absurd (Ab c59) Xn
 .exact absurd (Ab c58) Xn
 .exact absurd (Ab c57) Xn
 .exact absurd (Ab c56) Xn
 .exact absurd (Ab c55) Xn
 .exact absurd (Ab c54) Xn
 .exact absurd (Ab c53) Xn
 .exact absurd (Ab JR) Xn
 .exact absurd (Ab Kj) Xn
 .exact absurd (Ab J9) Xn
 .exact absurd (Ab Kq) Xn
 .exact absurd (Ab Kc) Xn
 .exact absurd (Ab Ka) Xn
 .exact absurd (Ab H9) Xn
 .exact absurd (Ab Kh) Xn
 .exact absurd (Ab LF) Xn
 .exact absurd (Ab JY) Xn
 .exact absurd (Ab Kb) Xn
 .exact absurd (Ab KR) Xn
 .exact absurd (Ab KZ) Xn
 .exact absurd (Ab LH) Xn
 .exact absurd (Ab Lu) Xn
 .exact absurd (Ab Ko) Xn
 .exact absurd (Ab LX) Xn
 .exact absurd (Ab Ly) Xn
 .exact absurd (Ab KM) Xn
 .exact absurd (Ab K6) Xn
 .exact absurd (Ab JM) Xn
 .exact absurd (Ab Kt) Xn
 .exact absurd (Ab Kg) Xn
 .exact absurd (Ab Kd) Xn
 .exact absurd (Ab Jf) Xn
 .exact absurd (Ab IA) Xn
 .exact absurd (Ab JD) Xn
 .exact absurd (Ab Gk) Xn
 .exact absurd (Ab HO) Xn
 .exact absurd (Ab G3) Xn
 .exact absurd (Ab FX) Xn
 .exact absurd (Ab EM) Xn
 .exact absurd (Ab Dz) Xn
 .exact absurd (Ab DB) Xn
 .exact absurd (Ab Dh) Xn
 .exact absurd (Ab Dg) Xn
 .exact absurd (Ab Dk) Xn
 .exact absurd (Ab C3) Xn
 .exact absurd (Ab CD) Xn
 .exact absurd (Ab Cp) Xn
 .exact absurd (Ab Ca) Xn
 .exact absurd (Ab CG) Xn
 .exact absurd (Ab BF) Xn
 .exact absurd (Ab c9) Xn
 .exact absurd (Ab c8) Xn
 .exact absurd (Ab c7) Xn
 .exact absurd (Ab c6) Xn
 .exact absurd (Ab c5) Xn
 .exact absurd (Ab c4) Xn
 .exact absurd (Ab c3) Xn
 .exact absurd (Ab c2) Xn
 .exact absurd (Ab c1) Xn
 .exact absurd (Ab c0) Xn
def pM:List Dt->Prop
 |[.l x0,.l x1,.l x2,.l x3]=>let f (m:JMem):Prop:=m.l0=[]/\m.l1.length<=256/\m.l2.length=64/\m.l3=[];f ⟨x0,x1,x2,x3⟩
 |_=>False
def c_jctx:Cd:=⟨21,[.ptr kJMem],[.one (.sl [ZA .u8] 5)],rd_JMem fun m _=>[.l m.l1],pM⟩
def agf:Tr:=
(.call 0 [.sl [ZA .u8] 5] (.N (.g 1) .nil) 4
(.u (.N (.g 4) .nil)))
def atg:c_jctx.Ok ZF:=
 AT (hl:=.inr (.inl ⟨(fun xs (h:pM xs) L hL=>by unfold pM at h;split at h<;>first|exact h.elim|(simp at hL;rcases hL with rfl|rfl|rfl|rfl;exact cX (Nat.le_of_eq (congrArg List.length h.1)) ST;exact cX h.2.1 ST;exact cX (Nat.le_of_eq h.2.2.1) ST;exact cX (Nat.le_of_eq (congrArg List.length h.2.2.2)) ST)),rfl⟩)) agf (v_JMem []) eV (Am ahJ AI) Tryz.func21<|ur fun m hm hp U g=>by
 simp only[c_jctx,pM,jT,b2i_one,ay,af]at hp;simp only[jT,AB,ZD]at g;simp only[agf,c_jsame,c_jctx,kB,jT,Ai,ZH,ZD,-eq_self,ay,af,g];refine⟨?_,?_⟩
 .exact cX hp.2.1 ST
 refine Xf ?_
 .rfl
def db(k:q2)(h:p->q=q2:=by intro e;(try simp only[e,ay,af,-eq_self]);rfl):p->q:=fun e=>(h e).symm▸k
def aeo:List (Nat×TI):=[(2,CB),
 (3,CU),
 (4,EH),
 (5,KW),
 (22,vd),
 (24,vb),
 (25,aoJ),
 (26,aoI),
 (33,Tf),
 (36,Vy),
 (37,arJ),
 (38,fT),
 (39,eX),
 (40,Xl),
 (42,arI),
 (60,Su),
 (61,QA),
 (63,SJ),
 (66,qP),
 (87,arH),
 (89,arG),
 (138,al4),
 (178,aeE)]
def aed:∀t i,(t,i)∈aeo->TIok ZF t i:=bi (DX (z:=lQ) ⟨lj,ig⟩ B1) B1 (by kernel_rfl)
def jJ:List Dt->Prop
 |[.z x0,.l x1,.l x2,.l x3,.z x4]=>let f (p:Prog) (cx:LL) (an:LL) (fu:Int):Prop:=(p.l.length<=maxLen/\cx.length<=maxLen)/\an.length<=maxLen;f ⟨x0,x1⟩ x2 x3 x4
 |_=>False
def c_jsnaps:Cd:=⟨7,[.agg kProg,.one (.sl [ZA .u8] 5),.one (.sl [ZA .u64] 39),.one (.int .i64)],[.one (.sl [ZA .i64] 3),.one (.sl LN 63),.agg kOut,.one (.int .i64)],rd_Prog fun p=>rdL fun cx=>rdL fun an=>rdZ fun fu _=>.l ((cQ p cx an fu).1)::.l ((cQ p cx an fu).2)::d_Out ((Cl p cx an fu).1) [.z ((Cl p cx an fu).2)],jJ⟩
def ano:E:=(.cons (.F .i64 (.get (.g 1) (.w 86) 3)) .nil)
def PI:E:=(.N (.g 88) (.cons (.w 93) (.cons (.p 0) .nil)))
def sE:E:=(.N (.g 7) (.N (.g 89) (.N (.g 90) (.N .ln .nil))))
def anp:E:=(.N (.g 95) PI)
def anq:E:=(.cons (.nth (.get (.g 1) (.w 86) 5) (.vs 10 11 .nil)) (.cons (.w 95) .nil))
def anr:E:=(.cons (.p 0) anp)
def Tk:E:=(.N (.lq (.g 91) (.cons (.w 86) .nil)) (.N (.lq (.g 92) (.vs 10 76 .nil)) .nil))
def Qx:E:=(.f .add .u64 (.nth (.get (.g 1) (.w 86) 5) (.vs 10 11 .nil)) (.F .u64 (.get (.g 1) (.w 86) 7)))
def Ws:E:=(.cons (.p 0) (.cons (.nth (.get (.g 1) (.w 86) 6) (.vs 10 11 .nil)) (.N (.g 89) (.N (.g 90) .nil))))
def ant:E:=(.N (.g 89) (.N (.g 90) Tk))
def VL:Tr:=(.u (.N .ln (.N .ln (.cons (.p 0) (.cons (.p 0) (.N .ln (.N .ln (.cons (.p 0) (.cons (.p 2) .nil)))))))))
def Ux:E:=(.N (.g 87) (.N (.g 88) ant))
def Wy:E:=(.cons (.f .add .i64 (.w 86) (.p 1)) Ux)
def anv:Tr:=(.next 0 (.cons (.w 93) (.vs 10 76 Wy)))
def anw:E:=(.cons (.f .or .i64 (.w 21) (.f .shl .i64 (.p 1) (.get (.g 1) (.w 86) 5))) (.vs 22 64 Wy))
def pC:Tr:=
(.call 0 [.int .i64,.int .i64] (.cons (.w 0) (.N (.g 1) .nil)) 5
(.br (.eq (.w 6) (.p 0))
(.br (.eq (.len (.g 2)) (.w 0))
(.br (.lt (.w 4) (.p 0))
VL
(.br (.lt (.p 10000) (.w 4))
VL
(.br (.lt (.p 256) (.len (.g 2)))
(.stuck 113)
(.call 10 [.sl [ZA .u8] 5] (.N .ln .nil) 7
(.call 10 [.sl [ZA .u8] 5] (.N (.g 2) .nil) 8
(.loop 0 9 [.int .i64,.int .u64,.int .u64,.int .u64,.int .u64,.int .u64,.int .u64,.int .u64,.int .u64,.int .u64,.int .u64,.int .u64,.int .i64,.int .u8,.int .u8,.int .u8,.int .u8,.int .u8,.int .u8,.int .u8,.int .u8,.int .u8,.int .u8,.int .u8,.int .u8,.int .u8,.int .u8,.int .u8,.int .u8,.int .u8,.int .u8,.int .u8,.int .u8,.int .u8,.int .u8,.int .u8,.int .u8,.int .u8,.int .u8,.int .u8,.int .u8,.int .u8,.int .u8,.int .u8,.int .u8,.int .u8,.int .u8,.int .u8,.int .u8,.int .u8,.int .u8,.int .u8,.int .u8,.int .u8,.int .u8,.int .u8,.int .u8,.int .u8,.int .u8,.int .u8,.int .u8,.int .u8,.int .u8,.int .u8,.int .u8,.int .u8,.int .u8,.int .u8,.int .u8,.int .u8,.int .u8,.int .u8,.int .u8,.int .u8,.int .u8,.int .u8,.int .u8,.int .i64,.list [ZA .u64],.list (kN 8 11111212),.list [ZA .u8],.list [ZA .u8],.list [ZA .i64],.list LN] (.cons (.w 4) (.zs [0,2097152,0,0,0,0,0,0,0,0,3145792,1026,0,0,0,0,0,0,0,0,0,0,0,0,0,0,0,0,0,0,0,0,0,0,0,0,0,0,0,0,0,0,0,0,0,0,0,0,0,0,0,0,0,0,0,0,0,0,0,0,0,0,0,0,0,0,0,0,0,0,0,0,0,0,0,0,0] (.N (.g 3) (.N .ln (.N (.g 8) (.N (.lrep (.p 64) (.cons (.p 0) .nil)) (.N .ln (.N .ln .nil))))))))
(.br (.lt (.p 0) (.w 9))
(.br (.lt (.len (.g 91)) (.p 1073741824))
(.br (.lt (.len (.g 92)) (.p 1073741824))
(.cut 1 93 [.int .i64]
(.next 1 (.cons (.f .sub .i64 (.w 9) (.p 1)) .nil))
(.br (.lt (.w 86) (.p 0))
.panic
(.br (.lt (.w 86) (.len (.g 1)))
(.call 1 [.int .i64] (.ins (.g 1) (.w 86) .nil) 94
(.br (.eq (.f .andNot .i64 (.w 94) (.w 21)) (.p 0))
(.br (.eq (.get (.g 1) (.w 86) 0) (.p 0))
(.br (.lt (.get (.g 1) (.w 86) 5) (.p 0))
.panic
(.br (.lt (.get (.g 1) (.w 86) 5) (.p 11))
(.call 2 [.int .u64] (.vs 10 11 (.ins (.g 1) (.w 86) .nil)) 95
(.call 3 [.int .u64,.int .i64] (.cons (.get (.g 1) (.w 86) 1) (.cons (.get (.g 1) (.w 86) 2) anq)) 96
(.next 0 (.cons (.w 93) (.cons (.ite (.eq (.get (.g 1) (.w 86) 5) (.p 0)) (.w 96) (.w 10)) (.cons (.ite (.eq (.get (.g 1) (.w 86) 5) (.p 1)) (.w 96) (.w 11)) (.cons (.ite (.eq (.get (.g 1) (.w 86) 5) (.p 2)) (.w 96) (.w 12)) (.cons (.ite (.eq (.get (.g 1) (.w 86) 5) (.p 3)) (.w 96) (.w 13)) (.cons (.ite (.eq (.get (.g 1) (.w 86) 5) (.p 4)) (.w 96) (.w 14)) (.cons (.ite (.eq (.get (.g 1) (.w 86) 5) (.p 5)) (.w 96) (.w 15)) (.cons (.ite (.eq (.get (.g 1) (.w 86) 5) (.p 6)) (.w 96) (.w 16)) (.cons (.ite (.eq (.get (.g 1) (.w 86) 5) (.p 7)) (.w 96) (.w 17)) (.cons (.ite (.eq (.get (.g 1) (.w 86) 5) (.p 8)) (.w 96) (.w 18)) (.cons (.ite (.eq (.get (.g 1) (.w 86) 5) (.p 9)) (.w 96) (.w 19)) (.cons (.ite (.eq (.get (.g 1) (.w 86) 5) (.p 10)) (.w 96) (.w 20)) anw)))))))))))))))
.panic))
(.br (.eq (.get (.g 1) (.w 86) 0) (.p 1))
(.br (.lt (.get (.g 1) (.w 86) 6) (.p 0))
.panic
(.br (.lt (.get (.g 1) (.w 86) 6) (.p 11))
(.call 7 [.int .u64,.int .i64] (.N (.g 7) (.N (.g 89) (.N (.g 90) (.N .ln (.cons (.f .add .u64 (.nth (.get (.g 1) (.w 86) 6) (.vs 10 11 .nil)) (.F .u64 (.get (.g 1) (.w 86) 7))) ano))))) 95
(.br (.eq (.w 96) (.p 0))
(.br (.lt (.get (.g 1) (.w 86) 5) (.p 0))
.panic
(.br (.lt (.get (.g 1) (.w 86) 5) (.p 11))
(.next 0 (.cons (.w 93) (.cons (.ite (.eq (.get (.g 1) (.w 86) 5) (.p 0)) (.w 95) (.w 10)) (.cons (.ite (.eq (.get (.g 1) (.w 86) 5) (.p 1)) (.w 95) (.w 11)) (.cons (.ite (.eq (.get (.g 1) (.w 86) 5) (.p 2)) (.w 95) (.w 12)) (.cons (.ite (.eq (.get (.g 1) (.w 86) 5) (.p 3)) (.w 95) (.w 13)) (.cons (.ite (.eq (.get (.g 1) (.w 86) 5) (.p 4)) (.w 95) (.w 14)) (.cons (.ite (.eq (.get (.g 1) (.w 86) 5) (.p 5)) (.w 95) (.w 15)) (.cons (.ite (.eq (.get (.g 1) (.w 86) 5) (.p 6)) (.w 95) (.w 16)) (.cons (.ite (.eq (.get (.g 1) (.w 86) 5) (.p 7)) (.w 95) (.w 17)) (.cons (.ite (.eq (.get (.g 1) (.w 86) 5) (.p 8)) (.w 95) (.w 18)) (.cons (.ite (.eq (.get (.g 1) (.w 86) 5) (.p 9)) (.w 95) (.w 19)) (.cons (.ite (.eq (.get (.g 1) (.w 86) 5) (.p 10)) (.w 95) (.w 20)) anw)))))))))))))
.panic))
(.call 12 [.sl [ZA .u8] 5] sE 97
(.u (.N (.lq (.g 91) (.cons (.w 86) .nil)) (.N (.lq (.g 92) (.vs 10 76 .nil)) (.cons (.p 3) (.cons (.p 0) (.N (.g 97) PI)))))))))
.panic))
(.br (.eq (.get (.g 1) (.w 86) 0) (.p 2))
(.br (.lt (.get (.g 1) (.w 86) 5) (.p 0))
.panic
(.br (.lt (.get (.g 1) (.w 86) 5) (.p 11))
(.br (.lt (.get (.g 1) (.w 86) 6) (.p 0))
.panic
(.br (.lt (.get (.g 1) (.w 86) 6) (.p 11))
(.call 8 [.bool] ano 95
(.br (.s 95)
(.call 9 [.int .i64,.bool] (.cons Qx (.cons (.F .i64 (.get (.g 1) (.w 86) 3)) (.cons (.p 1048576) (.N (.g 7) .nil)))) 96
(.br (.s 97)
(.call 12 [.sl [ZA .u8] 5] sE 98
(.u (.N (.lq (.g 91) (.cons (.w 86) .nil)) (.N (.lq (.g 92) (.vs 10 76 .nil)) (.cons (.p 3) (.cons (.p 0) (.N (.g 98) PI)))))))
(.call 9 [.int .i64,.bool] (.cons Qx (.cons (.F .i64 (.get (.g 1) (.w 86) 3)) (.cons (.p 2097152) (.N (.g 89) .nil)))) 98
(.br (.s 99)
(.loop 2 100 [.int .i64,.int .u64,.list [ZA .u8],.list [ZA .u8]] Ws
(.br (.lt (.w 100) (.F .i64 (.get (.g 1) (.w 86) 3)))
(.br (.lt (.f .add .i64 (.w 98) (.w 100)) (.p 0))
.panic
(.br (.lt (.f .add .i64 (.w 98) (.w 100)) (.len (.g 102)))
(.next 2 (.cons (.f .add .i64 (.w 100) (.p 1)) (.cons (.f .shr .u64 (.w 101) (.p 8)) (.N (.lset (.g 102) (.f .add .i64 (.w 98) (.w 100)) 0 (.F .u8 (.f .and .u64 (.w 101) (.p 255)))) (.N (.g 103) .nil)))))
.panic))
(.call 11 (kF64) (.N (.g 7) (.N (.g 102) (.N (.g 103) (.N .ln .nil)))) 104
(.next 0 (.cons (.w 93) (.vs 10 12 (.vs 104 64 (.cons (.f .add .i64 (.w 86) (.p 1)) (.N (.g 87) (.N (.g 88) (.N (.g 102) (.N (.g 103) Tk))))))))))))
(.call 9 [.int .i64,.bool] (.cons Qx (.cons (.F .i64 (.get (.g 1) (.w 86) 3)) (.cons (.p 3145728) (.N (.g 90) .nil)))) 100
(.br (.s 101)
(.loop 2 102 [.int .i64,.int .u64,.list [ZA .u8],.list [ZA .u8]] Ws
(.br (.lt (.w 102) (.F .i64 (.get (.g 1) (.w 86) 3)))
(.br (.lt (.f .add .i64 (.w 100) (.w 102)) (.p 0))
.panic
(.br (.lt (.f .add .i64 (.w 100) (.w 102)) (.len (.g 105)))
(.next 2 (.cons (.f .add .i64 (.w 102) (.p 1)) (.cons (.f .shr .u64 (.w 103) (.p 8)) (.N (.g 104) (.N (.lset (.g 105) (.f .add .i64 (.w 100) (.w 102)) 0 (.F .u8 (.f .and .u64 (.w 103) (.p 255)))) .nil)))))
.panic))
(.call 11 (kF64) (.N (.g 7) (.N (.g 104) (.N (.g 105) (.N .ln .nil)))) 106
(.next 0 (.cons (.w 93) (.vs 10 12 (.vs 106 64 (.cons (.f .add .i64 (.w 86) (.p 1)) (.N (.g 87) (.N (.g 88) (.N (.g 104) (.N (.g 105) Tk))))))))))))
(.call 9 [.int .i64,.bool] (.cons Qx (.cons (.F .i64 (.get (.g 1) (.w 86) 3)) (.cons (.p 4194304) (.N .ln .nil)))) 102
(.br (.s 103)
(.loop 2 104 [.int .i64,.int .u64,.list [ZA .u8],.list [ZA .u8]] Ws
(.br (.lt (.w 104) (.F .i64 (.get (.g 1) (.w 86) 3)))
.panic
(.call 11 (kF64) (.N (.g 7) (.N (.g 106) (.N (.g 107) (.N .ln .nil)))) 108
(.next 0 (.cons (.w 93) (.vs 10 12 (.vs 108 64 (.cons (.f .add .i64 (.w 86) (.p 1)) (.N (.g 87) (.N (.g 88) (.N (.g 106) (.N (.g 107) Tk))))))))))))
(.call 12 [.sl [ZA .u8] 5] sE 104
(.u (.N (.lq (.g 91) (.cons (.w 86) .nil)) (.N (.lq (.g 92) (.vs 10 76 .nil)) (.cons (.p 3) (.cons (.p 0) (.N (.g 104) PI)))))))))))))))
(.call 12 [.sl [ZA .u8] 5] sE 96
(.u (.N (.lq (.g 91) (.cons (.w 86) .nil)) (.N (.lq (.g 92) (.vs 10 76 .nil)) (.cons (.p 3) (.cons (.p 0) (.N (.g 96) PI)))))))))
.panic))
.panic))
(.br (.eq (.get (.g 1) (.w 86) 0) (.p 3))
(.br (.lt (.get (.g 1) (.w 86) 5) (.p 0))
.panic
(.br (.lt (.get (.g 1) (.w 86) 5) (.p 11))
(.call 2 [.int .u64] (.vs 10 11 (.ins (.g 1) (.w 86) .nil)) 95
(.call 4 [.bool,.int .i64] (.cons (.get (.g 1) (.w 86) 1) (.cons (.p 64) anq)) 96
(.br (.s 96)
(.call 5 [.int .i64,.bool] (.cons (.w 86) (.ins (.g 1) (.w 86) .nil)) 98
(.next 0 (.cons (.w 93) (.vs 10 76 (.cons (.w 98) Ux)))))
anv)))
.panic))
(.br (.eq (.get (.g 1) (.w 86) 0) (.p 4))
(.call 5 [.int .i64,.bool] (.cons (.w 86) (.ins (.g 1) (.w 86) .nil)) 95
(.next 0 (.cons (.w 93) (.vs 10 76 (.cons (.w 95) Ux)))))
(.br (.eq (.get (.g 1) (.w 86) 0) (.p 5))
(.br (.eq (.len (.g 87)) (.p 0))
(.call 12 [.sl [ZA .u8] 5] sE 95
(.u (.N (.lq (.g 91) (.cons (.w 86) .nil)) (.N (.lq (.g 92) (.vs 10 76 .nil)) (.cons (.p 2) anr)))))
(.br (.lt (.p 0) (.len (.g 87)))
(.br (.lt (.len (.g 87)) (.p 1))
.panic
(.loop 2 95 [.int .i64,.list [ZA .u64]] (.cons (.p 1) (.N .ln .nil))
(.call 6 [.int .i64] (.cons (.get (.g 1) (.w 86) 8) .nil) 97
(.br (.lt (.w 97) (.w 95))
(.br (.lt (.p 5) (.len (.g 96)))
(.stuck 220)
(.br (.lt (.len (.g 88)) (.p 1073741824))
(.next 0 (.cons (.w 93) (.cons (.get (.g 87) (.p 0) 0) (.zs [0,0,0,0,0] (.vs 16 5 (.cons (.f .andNot .i64 (.f .or .i64 (.f .andNot .i64 (.f .or .i64 (.f .andNot .i64 (.f .or .i64 (.f .andNot .i64 (.f .or .i64 (.f .andNot .i64 (.f .or .i64 (.f .or .i64 (.w 21) (.p 1)) (.p 2)) (.p 2)) (.p 4)) (.p 4)) (.p 8)) (.p 8)) (.p 16)) (.p 16)) (.p 32)) (.p 32)) (.vs 22 64 (.cons (.f .add .i64 (.w 86) (.p 1)) (.N (.ldrop (.g 87) (.p 1)) (.N (.lq (.g 88) (.cons (.get (.g 1) (.w 86) 8) (.cons (.get (.g 87) (.p 0) 0) (.cons (.len (.g 96)) (.cons (.get (.g 96) (.p 0) 0) (.cons (.get (.g 96) (.p 1) 0) (.cons (.get (.g 96) (.p 2) 0) (.cons (.get (.g 96) (.p 3) 0) (.cons (.get (.g 96) (.p 4) 0) .nil))))))))) ant))))))))))
.panic))
(.br (.lt (.w 95) (.p 0))
.panic
(.br (.lt (.w 95) (.p 11))
(.br (.lt (.len (.g 96)) (.p 1073741824))
(.next 2 (.cons (.f .add .i64 (.w 95) (.p 1)) (.N (.lq (.g 96) (.cons (.nth (.w 95) (.vs 10 11 .nil)) .nil)) .nil)))
.panic)
.panic))))))
.panic))
(.br (.eq (.get (.g 1) (.w 86) 0) (.p 6))
(.call 12 [.sl [ZA .u8] 5] sE 95
(.u (.N (.lq (.g 91) (.cons (.w 86) .nil)) (.N (.lq (.g 92) (.vs 10 76 .nil)) (.cons (.p 1) (.cons (.w 10) anp))))))
anv)))))))
(.call 12 [.sl [ZA .u8] 5] sE 95
(.u (.N (.lq (.g 91) (.cons (.w 86) .nil)) (.N (.lq (.g 92) (.vs 10 76 .nil)) (.cons (.p 3) anr)))))))
.panic)))
.panic)
.panic)
(.call 12 [.sl [ZA .u8] 5] sE 93
(.u (.N (.g 91) (.N (.g 92) (.cons (.p 0) (.cons (.p 0) (.N (.g 93) (.N (.g 88) (.cons (.w 9) (.cons (.p 0) .nil)))))))))))))))))
VL)
(.u (.N .ln (.N .ln (.cons (.p 0) (.cons (.p 0) (.N .ln (.N .ln (.cons (.p 0) (.cons (.w 6) .nil)))))))))))
def agn:cb aeo (FJ 0 [c_jcheck,c_jreads,c_jsec,c_rbits,c_rhol,c_jtgt,c_jargs,c_jmread,c_jsd,c_jwith,c_jsame,c_jframe,c_jctx]) [(20,Tryz.f20,[(999999,[]),(999998,[])],[]),(56,Tryz.f56,[(999999,[]),(999998,[])],[]),(61,Tryz.f61,[(6,[.tmpI 6 .i64,.cT 21 1 [ZA .u64] 39]++E1 [(30,18)]),(999999,[]),(999998,[])],[]),(19,Tryz.f19,[(999999,[]),(999998,[])],[]),(52,Tryz.f52,[(999999,[]),(999998,[])],[]),(58,Tryz.f58,[(9,[.tmpI 12 .i64,.tmpI 3 .u64,.row 7,.row 8]++E1 [(28,15)]),(999999,[]),(999998,[])],[]),(99,Tryz.f99,[(999999,[]),(999998,[])],[])] [(10,[.tmpI 3 .i64,.cels 10 3 (kN 77 23333333333333333333333333333333333333333333333333333333333333333211111111111),.celV 10 80 [ZA .u64] 39,.cT 10 81 Do 178,.row 7,.row 8,.tmpS 15 [ZA .i64] 3,.tmpS 16 LN 63]++E1 [(18,2),(48,27)]),(999999,[]),(999998,[])] [(14,[.tmpI 3 .i64]++E1 [(50,16)])] 200 Tryz.f7 c_jsnaps.a c_jsnaps.r (tp c_jsnaps.r) (v_Prog [.list [ZA .u8],.list [ZA .u64],.int .i64]) pC:=E0 (by kernel_rfl)
def ak0:c_jsnaps.Ok ZF:=
 GE (hl:=.inr (.inl ⟨(fun xs (h:jJ xs) L hL=>by unfold jJ at h;split at h<;>first|exact h.elim|(simp at hL;rcases hL with rfl|rfl|rfl;exact h.1.1;exact h.1.2;exact h.2)),rfl⟩)) pC (v_Prog [.list [ZA .u8],.list [ZA .u64],.int .i64]) aed (Am ak4<|Am ak1<|Am atc<|Am aqr<|Am as1<|Am amR<|Am ahL<|Am ak2<|Am atd<|Am ahI<|Am ahJ<|Am ak3<|Am atg AI) Tryz.func7 (GB Tryz.func20 (GB Tryz.func56 (GB Tryz.func61 (GB Tryz.func19 (GB Tryz.func52 (GB Tryz.func58 (GB Tryz.func99 E2))))))) agn<|gS fun p hp=>fun cx PL an han fu hfu hp U g=>by
 simp only[c_jsnaps,jJ,dE,apy,b2i_one,ay,af]at hp;have Aq:=g;simp only[dE,apy,eu,Ti,jT,RH,AB,ZD]at g;simp only[pC,anw,anv,Wy,Ux,VL,ant,Ws,Qx,Tk,anr,anq,anp,sE,PI,ano,c_jcheck,c_jreads,c_jsec,c_rbits,c_rhol,c_jtgt,c_jargs,c_jmread,c_jsd,c_jwith,c_jsame,c_jframe,c_jctx,c_jsnaps,jM,pL,yw,jK,kA,kB,jL,pM,dE,apy,eu,Ti,jT,RH,Ai,ZH,ZD,-eq_self,ay,af,g];obtain⟨k0_i0,K4,MY,M4,RV⟩:=g;refine⟨?_,?_⟩
 .exact hp.1.1
 refine db ?_;apply aI<;>intro c0;apply aI<;>intro c1;apply aI<;>intro c2
 .have e:Cl p cx an fu=_:=tZ (nE (Br c0) (.inr (.inl (Ah c2)))) ST;have ej:cQ p cx an fu=_:=mH (nE (Br c0) (.inr (.inl (Ah c2)))) ST;rw[e,ej]
 apply aI<;>intro c3
 .have e:Cl p cx an fu=_:=tZ (nE (Br c0) (.inr (.inr (Ah c3)))) ST;have ej:cQ p cx an fu=_:=mH (nE (Br c0) (.inr (.inr (Ah c3)))) ST;rw[e,ej]
 apply aI<;>intro c4
 .exact absurd (Ah c4) (by have:=wZ (Br c0);have:=Br c1;omega)
 refine⟨?_,?_⟩
 .first|exact Nat.zero_le _|exact cX (by have:=Ab c4;omega:cx.length<=256) ST
 intro e;have Rr:U.l 7=[]:=e;(try simp only[e,ay,af,-eq_self]);clear e;refine⟨?_,?_⟩
 .first|exact Nat.zero_le _|exact cX (by have:=Ab c4;omega:cx.length<=256) ST
 refine db ?_;have Al:=Br c0;have hf:0<=fu/\fu<=10000:=by have:=Ab c2;have:=Ab c3;omega
 have PL:cx.length<=256:=by have:=Ab c4;omega
 have hI:=cF hp.1.1 Al;have Ad:jV p cx fu=0:=agY Al (Br c1) hf.1 hf.2;refine⟨JInv p cx an fu,fun ds=>(dI ds 0).toNat,JAt.init hf.1 hI.1.2.1,?_⟩;intro U1 AZ hx1 Ba;obtain⟨_,z0,z1,z2,z3,z4,z5,z6,z7,z8,z9,Mg,_⟩:=hx1;have hu:∀x∈[U1.i 10,U1.i 11,U1.i 12,U1.i 13,U1.i 14,U1.i 15,U1.i 16,U1.i 17,U1.i 18,U1.i 19,U1.i 20],Ae .u64 x=ZB:=by intro x hx;simp only[List.mem_cons,List.not_mem_nil,or_false]at hx;rcases hx with rfl|rfl|rfl|rfl|rfl|rfl|rfl|rfl|rfl|rfl|rfl<;>assumption
 clear z0 z1 z2 z3 z4 z5 z6 z7 z8 z9 Mg;have hJ:JAt p cx an fu (U1.i 9) ⟨[U1.i 10,U1.i 11,U1.i 12,U1.i 13,U1.i 14,U1.i 15,U1.i 16,U1.i 17,U1.i 18,U1.i 19,U1.i 20],U1.i 21,U1.i 86,U1.l 87,U1.l 88,U1.l 89,U1.l 90⟩ (WA U1 22) (U1.l 91) (U1.l 92):=Ba;clear Ba;obtain⟨left,Ep⟩:∃z,U1.i 9=z:=⟨_,rfl⟩
 obtain⟨r0,D7⟩:∃z,U1.i 10=z:=⟨_,rfl⟩
 obtain⟨r1,D3⟩:∃z,U1.i 11=z:=⟨_,rfl⟩
 obtain⟨r2,Fe⟩:∃z,U1.i 12=z:=⟨_,rfl⟩
 obtain⟨r3,D4⟩:∃z,U1.i 13=z:=⟨_,rfl⟩
 obtain⟨r4,E5⟩:∃z,U1.i 14=z:=⟨_,rfl⟩
 obtain⟨r5,Fh⟩:∃z,U1.i 15=z:=⟨_,rfl⟩
 obtain⟨r6,FO⟩:∃z,U1.i 16=z:=⟨_,rfl⟩
 obtain⟨r7,In⟩:∃z,U1.i 17=z:=⟨_,rfl⟩
 obtain⟨r8,Iu⟩:∃z,U1.i 18=z:=⟨_,rfl⟩
 obtain⟨r9,IP⟩:∃z,U1.i 19=z:=⟨_,rfl⟩
 obtain⟨r10,Il⟩:∃z,U1.i 20=z:=⟨_,rfl⟩
 obtain⟨st,IE⟩:∃z,U1.i 21=z:=⟨_,rfl⟩
 obtain⟨pc,Ix⟩:∃z,U1.i 86=z:=⟨_,rfl⟩
 obtain⟨a1,IZ⟩:∃z,U1.l 87=z:=⟨_,rfl⟩
 obtain⟨t1,IL⟩:∃z,U1.l 88=z:=⟨_,rfl⟩
 obtain⟨c1,I6⟩:∃z,U1.l 89=z:=⟨_,rfl⟩
 obtain⟨f1,IJ⟩:∃z,U1.l 90=z:=⟨_,rfl⟩
 obtain⟨A1,IU⟩:∃z,U1.l 91=z:=⟨_,rfl⟩
 obtain⟨L1,II⟩:∃z,U1.l 92=z:=⟨_,rfl⟩
 simp only[Ep,D7,D3,Fe,D4,E5,Fh,FO,In,Iu,IP,Il,IE,Ix,IZ,IL,I6,IJ,IU,II]at hJ hu;have hR:=hJ.run;have Jm:=kL AZ K4;have MJ:=kL AZ Rr;have DS:c1.length<=256:=by have:=hR.cxl;exact cX (Nat.le_of_eq this) PL
 have q0:0<=pc:=hR.pc0;have q1:pc<(p.l.length:Int):=hR.pc1;have q2:f1.length=64:=hR.fm;have q4:(t1.length:Int)+left<=fu:=hR.tr;have q5:=hR.lo;have q6:=hR.hi;have q7:=hJ.la;have q8:=hJ.ll;simp only[Jm,MJ,Ep,D7,D3,Fe,D4,E5,Fh,FO,In,Iu,IP,Il,IE,Ix,IZ,IL,I6,IJ,IU,II,af,-eq_self];apply aI<;>intro c5;apply aI<;>intro c6;apply aI<;>intro c7;refine⟨fun ds=>ds=[.z (Ac .sub .i64 left 1)],?_,?_⟩
 .rfl
 intro U2 Cj _ Gx;simp only[Be,Mv,and_true]at Gx;have GR:=Gx;have Jd:=kL Cj Jm;have Jn:=kL Cj MJ;have Jp:=kI Cj Ep;have Hi:=kI Cj D7;have Hn:=kI Cj D3;have GQ:=kI Cj Fe;have GY:=kI Cj D4;have GH:=kI Cj E5;have G4:=kI Cj Fh;have G2:=kI Cj FO;have Hb:=kI Cj In;have Hg:=kI Cj Iu;have GI:=kI Cj IP;have Hc:=kI Cj Il;have Hh:=kI Cj IE;have GP:=kI Cj Ix;have Hf:=kL Cj IZ;have GZ:=kL Cj IL;have GO:=kL Cj I6;have GX:=kL Cj IJ;have Hd:=kL Cj IU;have GJ:=kL Cj II;have Eh:=hJ.snap;rw[<-kj (v:=22) Cj ST]at Eh;simp only[Jd,Jn,Jp,Hi,Hn,GQ,GY,GH,G4,G2,Hb,Hg,GI,Hc,Hh,GP,Hf,GZ,GO,GX,Hd,GJ,GR,af,-eq_self];apply aI<;>intro c8
 .exact absurd (Ah c8) Fn
 apply aI<;>intro c9;refine⟨?_,?_⟩
 .exact dr hp.1.1 Al q0 q1
 refine db ?_;apply aI<;>intro BF;apply aI<;>intro CG;apply aI<;>intro Ca
 .have Bh:=dr hp.1.1 Al q0 q1;have hd:=iQ Bh;exact absurd (Ah Ca) Fn
 apply aI<;>intro Cp;refine⟨?_,?_⟩
 .exact fun _=>(by have hd:=cr (dr hp.1.1 Al hR.pc0 hR.pc1);exact⟨hd.2.2.1,hd.2.2.2.1⟩)
 refine db ?_;refine db ?_
 .have Bh:=dr hp.1.1 Al q0 q1;have hd:=iQ Bh;have hk:(aa p.l pc).k=0:=Br CG;have hw:Ac .andNot .i64 (bc (aa p.l pc)) st=0:=Br BF;exact JAt.go hJ hp.1.1 Al hf.2 (Ah c5) (qo hw (.inl hk)) (Rt (auO hk) hd.1 hd.2.1) rfl rfl (congrArg (fun s=>L1++[s]) Eh.symm) ((kj (v:=22) Cj ST).trans hJ.fr)
 .have Bh:=dr hp.1.1 Al q0 q1;have hd:=iQ Bh;exact absurd (Ab Cp) Fn
 apply aI<;>intro CD;apply aI<;>intro C3
 .have Bh:=dr hp.1.1 Al q0 q1;have hd:=iQ Bh;exact absurd (Ah C3) Fn
 apply aI<;>intro Dk;refine⟨?_,?_⟩
 .exact XL
 refine db ?_;apply aI<;>intro Dg;apply aI<;>intro Dh
 .have Bh:=dr hp.1.1 Al q0 q1;have hd:=iQ Bh;exact absurd (Ah Dh) Fn
 apply aI<;>intro DB
 .have Bh:=dr hp.1.1 Al q0 q1;have hd:=iQ Bh;have hk:(aa p.l pc).k=1:=Br CD;have hw:Ac .andNot .i64 (bc (aa p.l pc)) st=0:=Br BF;have h16:=Br Dg;exact JAt.go hJ hp.1.1 Al hf.2 (Ah c5) (ah4 hw hk h16) (Rt (auN hk) hd.1 hd.2.1) rfl rfl (congrArg (fun s=>L1++[s]) Eh.symm) ((kj (v:=22) Cj ST).trans hJ.fr)
 .have Bh:=dr hp.1.1 Al q0 q1;have hd:=iQ Bh;exact absurd (Ab DB) Fn
 refine⟨?_,?_⟩
 .exact XL
 refine db ?_
 .have hk:(aa p.l pc).k=1:=Br CD;have hw:Ac .andNot .i64 (bc (aa p.l pc)) st=0:=Br BF;have hh:=aqK (m:=⟨[r0,r1,r2,r3,r4,r5,r6,r7,r8,r9,r10],st,pc,a1,t1,c1,f1⟩) hw hk (Cc Dg);have e:Cl p cx an fu=_:=mA Ad hR hf.2 (Ah c5) hh ST;have ej:=JAt.end Ad hJ (Ah c5) hh ST;rw[e,ej,Eh];rfl
 .have Bh:=dr hp.1.1 Al q0 q1;have hd:=iQ Bh;exact absurd (Ab Dk) Fn
 apply aI<;>intro Dz;apply aI<;>intro EM
 .have Bh:=dr hp.1.1 Al q0 q1;have hd:=iQ Bh;exact absurd (Ah EM) Fn
 apply aI<;>intro FX;apply aI<;>intro G3
 .have Bh:=dr hp.1.1 Al q0 q1;have hd:=iQ Bh;exact absurd (Ah G3) Fn
 apply aI<;>intro HO;refine db ?_;apply aI<;>intro Gk;refine⟨?_,?_⟩
 .exact⟨XM,by decide⟩
 refine db ?_;apply aI<;>intro JD;refine⟨?_,?_⟩
 .exact XL
 refine db ?_
 .exact absurd JD (by rw[ahS (by have:=bL Gk;omega)];decide)
 refine⟨?_,?_⟩
 .exact⟨XM,cX DS ST⟩
 intro e;have KA:=e.1;(try simp only[e,ay,af,-eq_self]);clear e;apply aI<;>intro IA;have Bh:=dr hp.1.1 Al q0 q1;have hd:=iQ Bh;have hk:(aa p.l pc).k=2:=Br Dz;obtain⟨a,ea⟩:∃a,Ac .add .u64 (([r0,r1,r2,r3,r4,r5,r6,r7,r8,r9,r10]:List Int).getD (gt p.l pc 5).toNat 0) (ZG .u64 (gt p.l pc 7))=a:=⟨_,rfl⟩
 obtain⟨n,en⟩:∃n,ZG .i64 (gt p.l pc 3)=n:=⟨_,rfl⟩
 obtain⟨v,ev⟩:∃v,([r0,r1,r2,r3,r4,r5,r6,r7,r8,r9,r10]:List Int).getD (gt p.l pc 6).toNat 0=v:=⟨_,rfl⟩
 have hv:0<=v/\v<=18446744073709551615:=ev▸abS hu _;have hs:aN n=ZB:=en▸Gk;have ha:Ae .u64 a=ZB:=ea▸mI _ _;have Lv:=bL hs;have h1:1<=n:=Fn;have h8:n<=8:=Fn;have hq:∀k,n.toNat=k->k<=8:=fun k hk=>by omega
 simp only[ea,en]at IA KA;have fr:inr 2097152 c1 a n=ZB:=IA;have W:=Win.of fr ha ST (cX DS ST) h1 h8;simp only[ea,en,ev,-eq_self];refine⟨fun ds=>∃k:Nat,ds=[.z (k:Int),.z (ID v k),.l (putL c1 (a-2097152).toNat v k),.l f1]/\k<=n.toNat,fun ds=>n.toNat-(dI ds 0).toNat,⟨0,by rw[arQ];rfl,Nat.zero_le _⟩,?_⟩;intro U3 Bd _ Is;obtain⟨k,Bp,D1⟩:=Is;simp only[Be,Mv,and_true]at Bp;obtain⟨GU,LQ,Ml,LU⟩:=Bp;have HA:=kL Bd Jd;have HI:=kL Bd Jn;have HP:=kI Bd Jp;have FR:=kI Bd Hi;have FL:=kI Bd Hn;have Fb:=kI Bd GQ;have Fy:=kI Bd GY;have Fv:=kI Bd GH;have FT:=kI Bd G4;have FM:=kI Bd G2;have Fx:=kI Bd Hb;have E4:=kI Bd Hg;have Fg:=kI Bd GI;have FD:=kI Bd Hc;have FP:=kI Bd Hh;have FG:=kI Bd GP;have FU:=kL Bd Hf;have FF:=kL Bd GZ;have Fk:=kL Bd GO;have FN:=kL Bd GX;have Fl:=kL Bd Hd;have E6:=kL Bd GJ;have Fq:=kI Bd GR;have NJ:U3.i 98=a-2097152:=(kI Bd KA).trans (ri fr h1);have HN:=Eh;rw[<-kj (v:=22) Bd ST]at HN;simp only[HA,HI,HP,FR,FL,Fb,Fy,Fv,FT,FM,Fx,E4,Fg,FD,FP,FG,FU,FF,Fk,FN,Fl,E6,Fq,GU,LQ,Ml,LU,NJ,ea,en,ev,-eq_self];apply aI<;>intro Jf;apply aI<;>intro Kd
 .have Gq:k<n.toNat:=by have:=Ah Jf;omega
  have w1:=W.lo;have w2:=W.hi;rw[(W.byte (cX DS ST) Gq).1]at Kd;exact absurd (Ah Kd) Fn
 apply aI<;>intro Kg
 .have Gq:k<n.toNat:=by have:=Ah Jf;omega
  rw[Qy W (cX DS ST) hv.1 hv.2 Gq,arP hv.1 hv.2,S2 Gq (cX (by omega:n.toNat<=8) ST)];exact⟨⟨k+1,rfl,Gq⟩,by show n.toNat-(((k+1:Nat):Int)).toNat<n.toNat-((k:Int)).toNat;omega⟩
 .have Gq:k<n.toNat:=by have:=Ah Jf;omega
  have w1:=W.lo;have w2:=W.hi;rw[(W.byte (cX DS ST) Gq).1,fG]at Kg;exact absurd (Ab Kg) Fn
 refine⟨?_,?_⟩
 .exact⟨rfl,by rw[fG];exact DS,q2,rfl⟩
 refine db ?_
 .have hk:(aa p.l pc).k=2:=Br Dz;have hw:Ac .andNot .i64 (bc (aa p.l pc)) st=0:=Br BF;obtain rfl:k=n.toNat:=by have:=Ab Jf;omega
  have g2:inr 3145728 f1 a n=ZC:=by have:=W.hi;have:=W.lo;unfold inr;rw[eY Fn];rfl
  have eC:Lw ⟨[r0,r1,r2,r3,r4,r5,r6,r7,r8,r9,r10],st,pc,a1,t1,c1,f1⟩ a n v=putL c1 (a-2097152).toNat v n.toNat:=if_pos fr;have eF:Jr ⟨[r0,r1,r2,r3,r4,r5,r6,r7,r8,r9,r10],st,pc,a1,t1,c1,f1⟩ a n v=f1:=if_neg (by rw[g2];decide);have eO:EP ⟨[r0,r1,r2,r3,r4,r5,r6,r7,r8,r9,r10],st,pc,a1,t1,c1,f1⟩ a n=ZB:=by unfold EP;rw[show inr 2097152 c1 a n=ZB from fr];rfl
  exact JAt.go hJ hp.1.1 Al hf.2 (Ah c5) (zf hw hk ea en eO) (by rw[asr (m:=⟨[r0,r1,r2,r3,r4,r5,r6,r7,r8,r9,r10],st,pc,a1,t1,c1,f1⟩) hk ea en ev,eC,eF];rfl) rfl rfl (congrArg (fun s=>L1++[s]) HN.symm) (aih q2)
 refine⟨?_,?_⟩
 .exact⟨XM,by rw[q2];decide⟩
 intro e;have Jk:=e.1;(try simp only[e,ay,af,-eq_self]);clear e;apply aI<;>intro Kt;have Bh:=dr hp.1.1 Al q0 q1;have hd:=iQ Bh;have hk:(aa p.l pc).k=2:=Br Dz;obtain⟨a,ea⟩:∃a,Ac .add .u64 (([r0,r1,r2,r3,r4,r5,r6,r7,r8,r9,r10]:List Int).getD (gt p.l pc 5).toNat 0) (ZG .u64 (gt p.l pc 7))=a:=⟨_,rfl⟩
 obtain⟨n,en⟩:∃n,ZG .i64 (gt p.l pc 3)=n:=⟨_,rfl⟩
 obtain⟨v,ev⟩:∃v,([r0,r1,r2,r3,r4,r5,r6,r7,r8,r9,r10]:List Int).getD (gt p.l pc 6).toNat 0=v:=⟨_,rfl⟩
 have hv:0<=v/\v<=18446744073709551615:=ev▸abS hu _;have hs:aN n=ZB:=en▸Gk;have ha:Ae .u64 a=ZB:=ea▸mI _ _;have Lv:=bL hs;have h1:1<=n:=Fn;have h8:n<=8:=Fn;have hq:∀k,n.toNat=k->k<=8:=fun k hk=>by omega
 simp only[ea,en]at IA Kt Jk;have fr:inr 3145728 f1 a n=ZB:=Kt;have W:=Win.of fr ha ST (by rw[q2];decide) h1 h8;simp only[ea,en,ev,-eq_self];refine⟨fun ds=>∃k:Nat,ds=[.z (k:Int),.z (ID v k),.l c1,.l (putL f1 (a-3145728).toNat v k)]/\k<=n.toNat,fun ds=>n.toNat-(dI ds 0).toNat,⟨0,by rw[arQ];rfl,Nat.zero_le _⟩,?_⟩;intro U3 Bd _ Is;obtain⟨k,Bp,D1⟩:=Is;simp only[Be,Mv,and_true]at Bp;obtain⟨Mr,L4,Mh,Mw⟩:=Bp;have HA:=kL Bd Jd;have HI:=kL Bd Jn;have HP:=kI Bd Jp;have FR:=kI Bd Hi;have FL:=kI Bd Hn;have Fb:=kI Bd GQ;have Fy:=kI Bd GY;have Fv:=kI Bd GH;have FT:=kI Bd G4;have FM:=kI Bd G2;have Fx:=kI Bd Hb;have E4:=kI Bd Hg;have Fg:=kI Bd GI;have FD:=kI Bd Hc;have FP:=kI Bd Hh;have FG:=kI Bd GP;have FU:=kL Bd Hf;have FF:=kL Bd GZ;have Fk:=kL Bd GO;have FN:=kL Bd GX;have Fl:=kL Bd Hd;have E6:=kL Bd GJ;have Fq:=kI Bd GR;have GU:U3.i 100=a-3145728:=(kI Bd Jk).trans (ri fr h1);have HN:=Eh;rw[<-kj (v:=22) Bd ST]at HN;simp only[HA,HI,HP,FR,FL,Fb,Fy,Fv,FT,FM,Fx,E4,Fg,FD,FP,FG,FU,FF,Fk,FN,Fl,E6,Fq,Mr,L4,Mh,Mw,GU,ea,en,ev,-eq_self];apply aI<;>intro JM;apply aI<;>intro K6
 .have Gq:k<n.toNat:=by have:=Ah JM;omega
  have w1:=W.lo;have w2:=W.hi;rw[(W.byte (by rw[q2];decide) Gq).1]at K6;exact absurd (Ah K6) Fn
 apply aI<;>intro KM
 .have Gq:k<n.toNat:=by have:=Ah JM;omega
  rw[Qy W (by rw[q2];decide) hv.1 hv.2 Gq,arP hv.1 hv.2,S2 Gq (cX (by omega:n.toNat<=8) ST)];exact⟨⟨k+1,rfl,Gq⟩,by show n.toNat-(((k+1:Nat):Int)).toNat<n.toNat-((k:Int)).toNat;omega⟩
 .have Gq:k<n.toNat:=by have:=Ah JM;omega
  have w1:=W.lo;have w2:=W.hi;rw[(W.byte (by rw[q2];decide) Gq).1,fG]at KM;exact absurd (Ab KM) Fn
 refine⟨?_,?_⟩
 .exact⟨rfl,DS,by rw[fG];exact q2,rfl⟩
 refine db ?_
 .have hk:(aa p.l pc).k=2:=Br Dz;have hw:Ac .andNot .i64 (bc (aa p.l pc)) st=0:=Br BF;obtain rfl:k=n.toNat:=by have:=Ab JM;omega
  have g1:inr 2097152 c1 a n=ZC:=IA;have eC:Lw ⟨[r0,r1,r2,r3,r4,r5,r6,r7,r8,r9,r10],st,pc,a1,t1,c1,f1⟩ a n v=c1:=if_neg (by rw[g1];decide);have eF:Jr ⟨[r0,r1,r2,r3,r4,r5,r6,r7,r8,r9,r10],st,pc,a1,t1,c1,f1⟩ a n v=putL f1 (a-3145728).toNat v n.toNat:=if_pos fr;have eO:EP ⟨[r0,r1,r2,r3,r4,r5,r6,r7,r8,r9,r10],st,pc,a1,t1,c1,f1⟩ a n=ZB:=by unfold EP;rw[show inr 3145728 f1 a n=ZB from fr,Bool.or_true]
  exact JAt.go hJ hp.1.1 Al hf.2 (Ah c5) (zf hw hk ea en eO) (by rw[asr (m:=⟨[r0,r1,r2,r3,r4,r5,r6,r7,r8,r9,r10],st,pc,a1,t1,c1,f1⟩) hk ea en ev,eC,eF];rfl) rfl rfl (congrArg (fun s=>L1++[s]) HN.symm) (aih (by rw[fG];exact q2))
 refine⟨?_,?_⟩
 .exact⟨XM,by decide⟩
 refine db ?_;apply aI<;>intro Ly;refine⟨fun _=>False,fun _=>0,absurd Ly (by rw[ahS (by have:=bL Gk;omega)];decide),?_⟩;intro U3 Bd _ hif;apply aI<;>intro LX
 .exact hif.elim
 refine⟨?_,?_⟩
 .exact hif.elim
 refine db ?_
 .exact hif.elim
 refine⟨?_,?_⟩
 .exact XL
 refine db ?_
 .have hk:(aa p.l pc).k=2:=Br Dz;have hw:Ac .andNot .i64 (bc (aa p.l pc)) st=0:=Br BF;have eO:EP (⟨[r0,r1,r2,r3,r4,r5,r6,r7,r8,r9,r10],st,pc,a1,t1,c1,f1⟩:Ms) (F8 ((⟨[r0,r1,r2,r3,r4,r5,r6,r7,r8,r9,r10],st,pc,a1,t1,c1,f1⟩:Ms).r (aa p.l pc).d) (aa p.l pc).off) (ZG .i64 (aa p.l pc).sz)=ZC:=by unfold EP;rw[show inr 2097152 c1 (F8 ((⟨[r0,r1,r2,r3,r4,r5,r6,r7,r8,r9,r10],st,pc,a1,t1,c1,f1⟩:Ms).r (aa p.l pc).d) (aa p.l pc).off) (ZG .i64 (aa p.l pc).sz)=ZC from IA,show inr 3145728 f1 (F8 ((⟨[r0,r1,r2,r3,r4,r5,r6,r7,r8,r9,r10],st,pc,a1,t1,c1,f1⟩:Ms).r (aa p.l pc).d) (aa p.l pc).off) (ZG .i64 (aa p.l pc).sz)=ZC from Kt];rfl
  have hh:=aqJ (m:=⟨[r0,r1,r2,r3,r4,r5,r6,r7,r8,r9,r10],st,pc,a1,t1,c1,f1⟩) hw hk rfl rfl eO;have e:Cl p cx an fu=_:=mA Ad hR hf.2 (Ah c5) hh ST;have ej:=JAt.end Ad hJ (Ah c5) hh ST;rw[e,ej,Eh];rfl
 refine⟨?_,?_⟩
 .exact XL
 refine db ?_
 .have Bh:=dr hp.1.1 Al q0 q1;have hd:=iQ Bh;have hk:(aa p.l pc).k=2:=Br Dz;have hw:Ac .andNot .i64 (bc (aa p.l pc)) st=0:=Br BF;exact absurd (acH Bh (.inr hk)) (by rw[show aN (ZG .i64 (aa p.l pc).sz)=ZC from Gk];decide)
 .have Bh:=dr hp.1.1 Al q0 q1;have hd:=iQ Bh;exact absurd (Ab HO) Fn
 .have Bh:=dr hp.1.1 Al q0 q1;have hd:=iQ Bh;exact absurd (Ab FX) Fn
 apply aI<;>intro Ko;apply aI<;>intro Lu
 .have Bh:=dr hp.1.1 Al q0 q1;have hd:=iQ Bh;exact absurd (Ah Lu) Fn
 apply aI<;>intro LH;refine⟨?_,?_⟩
 .exact fun _=>(by have hd:=cr (dr hp.1.1 Al hR.pc0 hR.pc1);exact⟨hd.2.2.1,hd.2.2.2.1⟩)
 refine db ?_;refine db ?_;apply aI<;>intro KZ;refine db ?_
 .have hk:(aa p.l pc).k=3:=Br Ko;have hw:Ac .andNot .i64 (bc (aa p.l pc)) st=0:=Br BF;exact JAt.go hJ hp.1.1 Al hf.2 (Ah c5) (qo hw (.inr (.inl hk))) ((aso (m:=⟨[r0,r1,r2,r3,r4,r5,r6,r7,r8,r9,r10],st,pc,a1,t1,c1,f1⟩) hk KZ).symm) rfl rfl (congrArg (fun s=>L1++[s]) Eh.symm) ((kj (v:=22) Cj ST).trans hJ.fr)
 .have hk:(aa p.l pc).k=3:=Br Ko;have hw:Ac .andNot .i64 (bc (aa p.l pc)) st=0:=Br BF;exact JAt.go hJ hp.1.1 Al hf.2 (Ah c5) (qo hw (.inr (.inl hk))) ((asp (m:=⟨[r0,r1,r2,r3,r4,r5,r6,r7,r8,r9,r10],st,pc,a1,t1,c1,f1⟩) hk KZ).symm) rfl rfl (congrArg (fun s=>L1++[s]) Eh.symm) ((kj (v:=22) Cj ST).trans hJ.fr)
 .have Bh:=dr hp.1.1 Al q0 q1;have hd:=iQ Bh;exact absurd (Ab LH) Fn
 apply aI<;>intro KR;refine db ?_
 .have hk:(aa p.l pc).k=4:=Br KR;have hw:Ac .andNot .i64 (bc (aa p.l pc)) st=0:=Br BF;exact JAt.go hJ hp.1.1 Al hf.2 (Ah c5) (qo hw (.inr (.inr hk))) ((auM (m:=⟨[r0,r1,r2,r3,r4,r5,r6,r7,r8,r9,r10],st,pc,a1,t1,c1,f1⟩) hk).symm) rfl rfl (congrArg (fun s=>L1++[s]) Eh.symm) ((kj (v:=22) Cj ST).trans hJ.fr)
 apply aI<;>intro Kb;apply aI<;>intro JY;refine⟨?_,?_⟩
 .exact XL
 refine db ?_
 .have hk:(aa p.l pc).k=5:=Br Kb;have hw:Ac .andNot .i64 (bc (aa p.l pc)) st=0:=Br BF;have hh:=ah5 (m:=⟨[r0,r1,r2,r3,r4,r5,r6,r7,r8,r9,r10],st,pc,a1,t1,c1,f1⟩) hw hk (show a1.length=0 by have:=Br JY;omega);have e:Cl p cx an fu=_:=mA Ad hR hf.2 (Ah c5) hh ST;have ej:=JAt.end Ad hJ (Ah c5) hh ST;rw[e,ej,Eh];rfl
 apply aI<;>intro LF;apply aI<;>intro Kh
 .exact absurd (Ah Kh) (by have:=Cc JY;omega)
 have Bh:=dr hp.1.1 Al q0 q1;have hd:=iQ Bh;have hk:(aa p.l pc).k=5:=Br Kb;have hw:Ac .andNot .i64 (bc (aa p.l pc)) st=0:=Br BF;refine⟨fun ds=>∃k:Nat,ds=[.z ((k:Int)+1),.l (CZ [r0,r1,r2,r3,r4,r5,r6,r7,r8,r9,r10] (k:Int))]/\(k:Int)<=fJ (gt p.l pc 8),fun ds=>7-(dI ds 0).toNat,⟨0,by rw[at7];rfl,(fI _).1⟩,?_⟩;intro U3 Bd _ Is;obtain⟨k,Bp,D1⟩:=Is;simp only[Be,Mv,and_true]at Bp;obtain⟨Pt,O9⟩:=Bp;have HA:=kL Bd Jd;have HI:=kL Bd Jn;have HP:=kI Bd Jp;have FR:=kI Bd Hi;have FL:=kI Bd Hn;have Fb:=kI Bd GQ;have Fy:=kI Bd GY;have Fv:=kI Bd GH;have FT:=kI Bd G4;have FM:=kI Bd G2;have Fx:=kI Bd Hb;have E4:=kI Bd Hg;have Fg:=kI Bd GI;have FD:=kI Bd Hc;have FP:=kI Bd Hh;have FG:=kI Bd GP;have FU:=kL Bd Hf;have FF:=kL Bd GZ;have Fk:=kL Bd GO;have FN:=kL Bd GX;have Fl:=kL Bd Hd;have E6:=kL Bd GJ;have Fq:=kI Bd GR;have HN:=Eh;rw[<-kj (v:=22) Bd ST]at HN;have hb5:=(fI (gt p.l pc 8)).2;have hA5:=alI (rg:=[r0,r1,r2,r3,r4,r5,r6,r7,r8,r9,r10]) (k:=k) Fn;simp only[HA,HI,HP,FR,FL,Fb,Fy,Fv,FT,FM,Fx,E4,Fg,FD,FP,FG,FU,FF,Fk,FN,Fl,E6,Fq,Pt,O9,-eq_self];refine db ?_;apply aI<;>intro H9;apply aI<;>intro Ka
 .exact absurd (Ah Ka) (by have q:=Ah H9;omega)
 apply aI<;>intro Kc
 .have hk9:(k:Int)=fJ (aa p.l pc).imm:=by have:=Ah H9;show(k:Int)=fJ (gt p.l pc 8);omega
  exact JAt.go hJ hp.1.1 Al hf.2 (Ah c5) (ah6 hw hk (show a1.length≠0 by have:=Cc JY;omega)) (asn (m:=⟨[r0,r1,r2,r3,r4,r5,r6,r7,r8,r9,r10],st,pc,a1,t1,c1,f1⟩) hk hk9 rfl) rfl rfl (congrArg (fun s=>L1++[s]) HN.symm) ((kj (v:=22) Bd ST).trans ((kj (v:=22) Cj ST).trans hJ.fr))
 .exact absurd (Ab Kc) (by have:=Ah c5;omega)
 apply aI<;>intro Kq
 .exact absurd (Ah Kq) (by have q:=Ab H9;omega)
 apply aI<;>intro J9;apply aI<;>intro Kj
 .have q:=Ab H9;have Wf:k=0\/k=1\/k=2\/k=3\/k=4:=Fn;refine⟨⟨k+1,?_,by omega⟩,?_⟩
  .rcases Wf with rfl|rfl|rfl|rfl|rfl<;>rfl
  .show 7-(Ac .add .i64 ((k:Int)+1) 1).toNat<7-((k:Int)+1).toNat;rcases Wf with rfl|rfl|rfl|rfl|rfl<;>decide
 .exact absurd (Ab Kj) (by have q:=Ab H9;omega)
 .exact absurd (Ab J9) (by have q:=Ab H9;omega)
 .exact absurd (Ab LF) (by have:=Cc JY;omega)
 apply aI<;>intro JR;refine⟨?_,?_⟩
 .exact XL
 refine db ?_
 .have hk:(aa p.l pc).k=6:=Br JR;have hw:Ac .andNot .i64 (bc (aa p.l pc)) st=0:=Br BF;have hh:=amY (m:=⟨[r0,r1,r2,r3,r4,r5,r6,r7,r8,r9,r10],st,pc,a1,t1,c1,f1⟩) hw hk;have e:Cl p cx an fu=_:=mA Ad hR hf.2 (Ah c5) hh ST;have ej:=JAt.end Ad hJ (Ah c5) hh ST;rw[e,ej,Eh];rfl
 .have Bh:=dr hp.1.1 Al q0 q1;have hd:=iQ Bh;have n0:=Cc CG;have n1:=Cc CD;have n2:=Cc Dz;have n3:=Cc Ko;have n4:=Cc KR;have n5:=Cc Kb;have n6:=Cc JR;exact absurd hd.2.2.2.2.2.2.2 Fn
 refine⟨?_,?_⟩
 .exact XL
 refine db ?_
 .have hh:=atr (m:=⟨[r0,r1,r2,r3,r4,r5,r6,r7,r8,r9,r10],st,pc,a1,t1,c1,f1⟩) (Cc BF);have e:Cl p cx an fu=_:=mA Ad hR hf.2 (Ah c5) hh ST;have ej:=JAt.end Ad hJ (Ah c5) hh ST;rw[e,ej,Eh];rfl
 .exact absurd q1 (Ab c9)
 .exact absurd (show(L1.length:Int)<1073741824 by omega) (Ab c7)
 .exact absurd (show(A1.length:Int)<1073741824 by omega) (Ab c6)
 refine⟨?_,?_⟩
 .exact XL
 refine db ?_
 .have e:Cl p cx an fu=_:=akA Ad hR (Ab c5);have ej:=JAt.out Ad hJ (Ab c5);rw[e,ej]
 .have e:Cl p cx an fu=_:=tZ (nE (Br c0) (.inl (Cc c1))) ST;have ej:cQ p cx an fu=_:=mH (nE (Br c0) (.inl (Cc c1))) ST;rw[e,ej]
 .have e:Cl p cx an fu=_:=tZ (abk (Cc c0)) (Cc c0);have ej:cQ p cx an fu=_:=mH (abk (Cc c0)) (Cc c0);rw[e,ej]
def wI(k:q2)(h:p->q=q2:=by intro e;(try simp only[e,Kn.eta,Pi.eta,Pu.eta,Rg.eta,Sc.eta,Sc.eta_r,Sc.eta_k,Sc.eta_2,-eq_self]);rfl):p->q:=fun e=>(h e).symm▸k
def aoy:List (Nat×TI):=[(2,CB),
 (39,eX),
 (46,gZ),
 (48,jl),
 (50,Qg)]
def uU:∀t i,(t,i)∈aoy->TIok ZF t i:=bi B1 B1 (by kernel_rfl)
def c_wmay:Cd:=⟨102,[.agg kSc],[.one .bool],rd_Sc fun a _=>[.z (AE (Bf a))],T0⟩
def aft:Tr:=
(.call 0 [.bool] (.vs 0 4 .nil) 6
(.br (.s 6)
(.call 1 [.bool] (.vs 4 2 .nil) 7
(.u (.j (.s 7) .nil)))
zlF))
def amH:c_wmay.Ok ZF:=
 AT aft (v_Sc []) uU (Am amK<|Am amL AI) Tryz.func102<|dt fun a ha hp U g=>by
 simp only[AO,AJ,AM,AB,ZD]at g;simp only[aft,c_rmay,c_qmay,c_wmay,AO,AJ,AM,Ai,ZH,ZD,-eq_self,Kn.eta,Pi.eta,Pu.eta,Rg.eta,Sc.eta,Sc.eta_r,Sc.eta_k,Sc.eta_2,g];refine wI ?_;apply aI<;>intro c0;refine wI ?_
 .exact YL
 .exact YL
def c_whas:Cd:=⟨66,[.agg kSc,.one (.int .u64)],[.one .bool],rd_Sc fun a=>rdZ fun v _=>[.z (AE (A2 a v))],T0⟩
def afu:Tr:=
(.call 0 [.bool] (.vs 0 6 .nil) 7
(.br (.s 7)
(.call 1 [.bool] (.vs 0 4 (.cons (.w 6) .nil)) 8
(.br (.s 8)
(.call 2 [.bool] (.vs 4 3 .nil) 9
(.u (.j (.s 9) .nil)))
zlF))
zlF))
def asM:c_whas.Ok ZF:=
 AT afu (v_Sc [.int .u64]) uU (Am amH<|Am as2<|Am as3 AI) Tryz.func66<|dt fun a ha=>fun v hv hp U g=>by
 simp only[AO,AJ,AM,AB,ZD]at g;simp only[afu,c_wmay,c_rhas,c_qhas,c_whas,AO,AJ,AM,Ai,ZH,ZD,-eq_self,Kn.eta,Pi.eta,Pu.eta,Rg.eta,Sc.eta,Sc.eta_r,Sc.eta_k,Sc.eta_2,g];refine wI ?_
 .repeat' first|apply aI<;>intro c|refine wI ?_|exact Yb
def aG(k:q2)(h:p->q=q2:=by intro e;(try simp only[e,bF,-eq_self]);rfl):p->q:=fun e=>(h e).symm▸k
def ael:List (Nat×TI):=[(2,CB),
 (3,CU),
 (5,KW),
 (38,fT),
 (39,eX),
 (46,gZ),
 (48,jl),
 (50,eM),
 (52,qS),
 (53,qR),
 (54,qQ),
 (56,uZ),
 (60,Su),
 (61,QA),
 (63,SJ)]
def lW:∀t i,(t,i)∈ael->TIok ZF t i:=bi (DX (z:=Ei) ⟨ra,lh⟩<|DX (z:=Dr) ⟨qZ,lg⟩ B1) B1 (by kernel_rfl)
def c_ytok:Cd:=⟨65,[.agg kTy],[.one .bool],rd_Ty fun t _=>[.z (AE (Bg t))],T0⟩
def WQ:Tr:=(.br (.lt (.w 8) (.w 7))
zlF
(.br (.lt (.w 7) (.p (-1048576)))
zlF
(.br (.lt (.p 1048576) (.w 8))
zlF
(.u (.j (.and (.eq (.w 1) (.p 0)) (.and (.eq (.w 2) (.p 0)) (.and (.eq (.w 3) (.p 0)) (.and (.eq (.w 4) (.p 0)) (.and (.eq (.w 5) (.p 0)) (.and (.eq (.w 6) (.p 0)) (.tt ZB))))))) .nil)))))
def afr:Tr:=
(.br (.eq (.w 0) (.p 0))
(.u (.j (.and (.eq (.w 0) (.p 0)) (.and (.eq (.w 1) (.p 0)) (.and (.eq (.w 2) (.p 0)) (.and (.eq (.w 3) (.p 0)) (.and (.eq (.w 4) (.p 0)) (.and (.eq (.w 5) (.p 0)) (.and (.eq (.w 6) (.p 0)) (.and (.eq (.w 7) (.p 0)) (.and (.eq (.w 8) (.p 0)) (.tt ZB)))))))))) .nil))
(.br (.eq (.w 0) (.p 1))
(.call 0 [.bool] (.vs 1 6 .nil) 9
(.br (.s 9)
(.br (.eq (.w 7) (.p 0))
(.u (.j (.eq (.w 8) (.p 0)) .nil))
zlF)
zlF))
(.br (.eq (.w 0) (.p 2))
WQ
(.br (.eq (.w 0) (.p 3))
WQ
zlF))))
def amG:c_ytok.Ok ZF:=
 AT afr (v_Ty []) lW (Am amH AI) Tryz.func65<|bG fun t ht hp U g=>by
 simp only[AD,AO,AB,ZD]at g;simp only[afr,WQ,c_wmay,c_ytok,AD,AO,Ai,ZH,ZD,-eq_self,bF,g]
 .repeat' first|apply aI<;>intro c|refine aG ?_|exact Id
def c_ymay:Cd:=⟨25,[.agg kSta],[.one .bool],rd_Sta fun s _=>[.z (AE (Az s))],T0⟩
def afs:Tr:=
(.call 0 [.bool] (.vs 0 9 .nil) 171
(.br (.s 171)
(.call 0 [.bool] (.vs 9 9 .nil) 172
(.br (.s 172)
(.call 0 [.bool] (.vs 18 9 .nil) 173
(.br (.s 173)
(.call 0 [.bool] (.vs 27 9 .nil) 174
(.br (.s 174)
(.call 0 [.bool] (.vs 36 9 .nil) 175
(.br (.s 175)
(.call 0 [.bool] (.vs 45 9 .nil) 176
(.br (.s 176)
(.call 0 [.bool] (.vs 54 9 .nil) 177
(.br (.s 177)
(.call 0 [.bool] (.vs 63 9 .nil) 178
(.br (.s 178)
(.call 0 [.bool] (.vs 72 9 .nil) 179
(.br (.s 179)
(.call 0 [.bool] (.vs 81 9 .nil) 180
(.br (.s 180)
(.call 0 [.bool] (.vs 90 9 .nil) 181
(.br (.s 181)
(.call 0 [.bool] (.vs 99 9 .nil) 182
(.br (.s 182)
(.br (.eq (.w 99) (.p 0))
zlF
(.call 0 [.bool] (.vs 108 9 .nil) 183
(.br (.s 183)
(.br (.eq (.w 108) (.p 0))
zlF
(.call 0 [.bool] (.vs 117 9 .nil) 184
(.br (.s 184)
(.br (.eq (.w 117) (.p 0))
zlF
(.call 0 [.bool] (.vs 126 9 .nil) 185
(.br (.s 185)
(.br (.eq (.w 126) (.p 0))
zlF
(.call 0 [.bool] (.vs 135 9 .nil) 186
(.br (.s 186)
(.br (.eq (.w 135) (.p 0))
zlF
(.call 0 [.bool] (.vs 144 9 .nil) 187
(.br (.s 187)
(.br (.eq (.w 144) (.p 0))
zlF
(.call 0 [.bool] (.vs 153 9 .nil) 188
(.br (.s 188)
(.br (.eq (.w 153) (.p 0))
zlF
(.call 0 [.bool] (.vs 162 9 .nil) 189
(.br (.s 189)
(.br (.eq (.w 162) (.p 0))
zlF
zlT)
zlF)))
zlF)))
zlF)))
zlF)))
zlF)))
zlF)))
zlF)))
zlF))
zlF))
zlF))
zlF))
zlF))
zlF))
zlF))
zlF))
zlF))
zlF))
zlF))
zlF))
def asK:c_ymay.Ok ZF:=
 AT afs (v_Sta []) lW (Am amG AI) Tryz.func25<|dS fun s hs hp U g=>by
 simp only[c_ymay,bT,fq,rdZ,rdB,rdL];simp only[bX,AD,AB,ZD]at g;simp(maxSteps:=10000000) only[afs,Ki,c_ytok,rdZ,rdB,rdL,c_ymay,bX,AD,Ai,ZH,ZD,-eq_self,bF,g];refine aG ?_
 .repeat' first|apply aI<;>intro c|refine aG ?_|exact Os
def c_yhold:Cd:=⟨26,[.agg kTy,.one (.int .u64)],[.one .bool],rd_Ty fun t=>rdZ fun v _=>[.z (AE (aQ t v))],T0⟩
def WZ:E:=(.F .i64 (.f .sub .u64 (.w 9) (.p 3145728)))
def W3:E:=(.F .i64 (.f .sub .u64 (.w 9) (.p 2097152)))
def aax:Tr:=
(.call 0 [.bool] (.vs 0 9 .nil) 10
(.br (.s 10)
(.br (.eq (.w 0) (.p 0))
zlT
(.br (.eq (.w 0) (.p 1))
(.call 1 [.bool] (.vs 1 6 (.cons (.w 9) .nil)) 11
(.u (.j (.s 11) .nil)))
(.br (.eq (.w 0) (.p 2))
(.br (.lt W3 (.w 7))
zlF
(.u (.j (.not (.lt (.w 8) W3)) .nil)))
(.br (.lt WZ (.w 7))
zlF
(.u (.j (.not (.lt (.w 8) WZ)) .nil))))))
zlF))
def aqa:c_yhold.Ok ZF:=
 AT aax (v_Ty [.int .u64]) lW (Am amG<|Am asM AI) Tryz.func26<|bG fun t ht=>fun v hv hp U g=>by
 simp only[AD,AO,AB,ZD]at g;simp only[aax,W3,WZ,c_ytok,c_whas,c_yhold,AD,AO,Ai,ZH,ZD,-eq_self,bF,g];refine aG ?_;apply aI<;>intro c0;apply aI<;>intro c1
 .rw[xV c0 (A4 c1)];try rfl
 apply aI<;>intro c2;refine aG ?_
 .rw[nb c0 (A4 c2)];try rfl
 apply aI<;>intro c3;apply aI<;>intro c4
 .simp only[Ac]at c4 ⊢;rw[te c0 (A4 c3),uj c4];try rfl
 .simp only[Ac]at c4 ⊢;rw[te c0 (A4 c3),oI c4];try rfl
 apply aI<;>intro c5
 .have hk:t.k=3:=(by rcases fS c0 with h|h|h|h<;>first|exact h|(rw[h]at c1 c2 c3;simp at c1 c2 c3))
  simp only[Ac]at c5 ⊢;rw[td c0 hk,uj c5];try rfl
 .have hk:t.k=3:=(by rcases fS c0 with h|h|h|h<;>first|exact h|(rw[h]at c1 c2 c3;simp at c1 c2 c3))
  simp only[Ac]at c5 ⊢;rw[td c0 hk,oI c5];try rfl
 .rw[aab c0]
def c_yhas:Cd:=⟨10,[.agg kSta,.agg kSnap],[.one .bool],rd_Sta fun s=>rd_Snap fun x _=>[.z (AE (Ar s x))],T0⟩
def ym:Tr:=
(.call 0 [.bool] (.vs 0 171 .nil) 247
(.br (.s 247)
(.cut 0 248 []
(.br (.eq (.w 0) (.p 0))
(.call 1 [.bool] (.vs 0 9 (.cons (.w 171) .nil)) 248
(.br (.s 248)
(.next 0 .nil)
zlF))
(.br (.eq (.f .and .i64 (.f .shr .i64 (.w 182) (.p 0)) (.p 1)) (.p 0))
zlF
(.call 1 [.bool] (.vs 0 9 (.cons (.w 171) .nil)) 248
(.br (.s 248)
(.next 0 .nil)
zlF))))
(.cut 1 248 []
(.br (.eq (.w 9) (.p 0))
(.call 1 [.bool] (.vs 9 9 (.cons (.w 172) .nil)) 248
(.br (.s 248)
(.next 1 .nil)
zlF))
(.br (.eq (.f .and .i64 (.f .shr .i64 (.w 182) (.p 1)) (.p 1)) (.p 0))
zlF
(.call 1 [.bool] (.vs 9 9 (.cons (.w 172) .nil)) 248
(.br (.s 248)
(.next 1 .nil)
zlF))))
(.cut 2 248 []
(.br (.eq (.w 18) (.p 0))
(.call 1 [.bool] (.vs 18 9 (.cons (.w 173) .nil)) 248
(.br (.s 248)
(.next 2 .nil)
zlF))
(.br (.eq (.f .and .i64 (.f .shr .i64 (.w 182) (.p 2)) (.p 1)) (.p 0))
zlF
(.call 1 [.bool] (.vs 18 9 (.cons (.w 173) .nil)) 248
(.br (.s 248)
(.next 2 .nil)
zlF))))
(.cut 3 248 []
(.br (.eq (.w 27) (.p 0))
(.call 1 [.bool] (.vs 27 9 (.cons (.w 174) .nil)) 248
(.br (.s 248)
(.next 3 .nil)
zlF))
(.br (.eq (.f .and .i64 (.f .shr .i64 (.w 182) (.p 3)) (.p 1)) (.p 0))
zlF
(.call 1 [.bool] (.vs 27 9 (.cons (.w 174) .nil)) 248
(.br (.s 248)
(.next 3 .nil)
zlF))))
(.cut 4 248 []
(.br (.eq (.w 36) (.p 0))
(.call 1 [.bool] (.vs 36 9 (.cons (.w 175) .nil)) 248
(.br (.s 248)
(.next 4 .nil)
zlF))
(.br (.eq (.f .and .i64 (.f .shr .i64 (.w 182) (.p 4)) (.p 1)) (.p 0))
zlF
(.call 1 [.bool] (.vs 36 9 (.cons (.w 175) .nil)) 248
(.br (.s 248)
(.next 4 .nil)
zlF))))
(.cut 5 248 []
(.br (.eq (.w 45) (.p 0))
(.call 1 [.bool] (.vs 45 9 (.cons (.w 176) .nil)) 248
(.br (.s 248)
(.next 5 .nil)
zlF))
(.br (.eq (.f .and .i64 (.f .shr .i64 (.w 182) (.p 5)) (.p 1)) (.p 0))
zlF
(.call 1 [.bool] (.vs 45 9 (.cons (.w 176) .nil)) 248
(.br (.s 248)
(.next 5 .nil)
zlF))))
(.cut 6 248 []
(.br (.eq (.w 54) (.p 0))
(.call 1 [.bool] (.vs 54 9 (.cons (.w 177) .nil)) 248
(.br (.s 248)
(.next 6 .nil)
zlF))
(.br (.eq (.f .and .i64 (.f .shr .i64 (.w 182) (.p 6)) (.p 1)) (.p 0))
zlF
(.call 1 [.bool] (.vs 54 9 (.cons (.w 177) .nil)) 248
(.br (.s 248)
(.next 6 .nil)
zlF))))
(.cut 7 248 []
(.br (.eq (.w 63) (.p 0))
(.call 1 [.bool] (.vs 63 9 (.cons (.w 178) .nil)) 248
(.br (.s 248)
(.next 7 .nil)
zlF))
(.br (.eq (.f .and .i64 (.f .shr .i64 (.w 182) (.p 7)) (.p 1)) (.p 0))
zlF
(.call 1 [.bool] (.vs 63 9 (.cons (.w 178) .nil)) 248
(.br (.s 248)
(.next 7 .nil)
zlF))))
(.cut 8 248 []
(.br (.eq (.w 72) (.p 0))
(.call 1 [.bool] (.vs 72 9 (.cons (.w 179) .nil)) 248
(.br (.s 248)
(.next 8 .nil)
zlF))
(.br (.eq (.f .and .i64 (.f .shr .i64 (.w 182) (.p 8)) (.p 1)) (.p 0))
zlF
(.call 1 [.bool] (.vs 72 9 (.cons (.w 179) .nil)) 248
(.br (.s 248)
(.next 8 .nil)
zlF))))
(.cut 9 248 []
(.br (.eq (.w 81) (.p 0))
(.call 1 [.bool] (.vs 81 9 (.cons (.w 180) .nil)) 248
(.br (.s 248)
(.next 9 .nil)
zlF))
(.br (.eq (.f .and .i64 (.f .shr .i64 (.w 182) (.p 9)) (.p 1)) (.p 0))
zlF
(.call 1 [.bool] (.vs 81 9 (.cons (.w 180) .nil)) 248
(.br (.s 248)
(.next 9 .nil)
zlF))))
(.cut 10 248 []
(.br (.eq (.w 90) (.p 0))
(.call 1 [.bool] (.vs 90 9 (.cons (.w 181) .nil)) 248
(.br (.s 248)
(.next 10 .nil)
zlF))
(.br (.eq (.f .and .i64 (.f .shr .i64 (.w 182) (.p 10)) (.p 1)) (.p 0))
zlF
(.call 1 [.bool] (.vs 90 9 (.cons (.w 181) .nil)) 248
(.br (.s 248)
(.next 10 .nil)
zlF))))
(.call 1 [.bool] (.vs 99 9 (.cons (.f .or .u64 (.f .shl .u64 (.f .or .u64 (.f .shl .u64 (.f .or .u64 (.f .shl .u64 (.f .or .u64 (.f .shl .u64 (.f .or .u64 (.f .shl .u64 (.f .or .u64 (.f .shl .u64 (.f .or .u64 (.f .shl .u64 (.f .or .u64 (.p 0) (.F .u64 (.w 190))) (.p 8)) (.F .u64 (.w 189))) (.p 8)) (.F .u64 (.w 188))) (.p 8)) (.F .u64 (.w 187))) (.p 8)) (.F .u64 (.w 186))) (.p 8)) (.F .u64 (.w 185))) (.p 8)) (.F .u64 (.w 184))) (.p 8)) (.F .u64 (.w 183))) .nil)) 248
(.br (.s 248)
(.call 1 [.bool] (.vs 108 9 (.cons (.f .or .u64 (.f .shl .u64 (.f .or .u64 (.f .shl .u64 (.f .or .u64 (.f .shl .u64 (.f .or .u64 (.f .shl .u64 (.f .or .u64 (.f .shl .u64 (.f .or .u64 (.f .shl .u64 (.f .or .u64 (.f .shl .u64 (.f .or .u64 (.p 0) (.F .u64 (.w 198))) (.p 8)) (.F .u64 (.w 197))) (.p 8)) (.F .u64 (.w 196))) (.p 8)) (.F .u64 (.w 195))) (.p 8)) (.F .u64 (.w 194))) (.p 8)) (.F .u64 (.w 193))) (.p 8)) (.F .u64 (.w 192))) (.p 8)) (.F .u64 (.w 191))) .nil)) 249
(.br (.s 249)
(.call 1 [.bool] (.vs 117 9 (.cons (.f .or .u64 (.f .shl .u64 (.f .or .u64 (.f .shl .u64 (.f .or .u64 (.f .shl .u64 (.f .or .u64 (.f .shl .u64 (.f .or .u64 (.f .shl .u64 (.f .or .u64 (.f .shl .u64 (.f .or .u64 (.f .shl .u64 (.f .or .u64 (.p 0) (.F .u64 (.w 206))) (.p 8)) (.F .u64 (.w 205))) (.p 8)) (.F .u64 (.w 204))) (.p 8)) (.F .u64 (.w 203))) (.p 8)) (.F .u64 (.w 202))) (.p 8)) (.F .u64 (.w 201))) (.p 8)) (.F .u64 (.w 200))) (.p 8)) (.F .u64 (.w 199))) .nil)) 250
(.br (.s 250)
(.call 1 [.bool] (.vs 126 9 (.cons (.f .or .u64 (.f .shl .u64 (.f .or .u64 (.f .shl .u64 (.f .or .u64 (.f .shl .u64 (.f .or .u64 (.f .shl .u64 (.f .or .u64 (.f .shl .u64 (.f .or .u64 (.f .shl .u64 (.f .or .u64 (.f .shl .u64 (.f .or .u64 (.p 0) (.F .u64 (.w 214))) (.p 8)) (.F .u64 (.w 213))) (.p 8)) (.F .u64 (.w 212))) (.p 8)) (.F .u64 (.w 211))) (.p 8)) (.F .u64 (.w 210))) (.p 8)) (.F .u64 (.w 209))) (.p 8)) (.F .u64 (.w 208))) (.p 8)) (.F .u64 (.w 207))) .nil)) 251
(.br (.s 251)
(.call 1 [.bool] (.vs 135 9 (.cons (.f .or .u64 (.f .shl .u64 (.f .or .u64 (.f .shl .u64 (.f .or .u64 (.f .shl .u64 (.f .or .u64 (.f .shl .u64 (.f .or .u64 (.f .shl .u64 (.f .or .u64 (.f .shl .u64 (.f .or .u64 (.f .shl .u64 (.f .or .u64 (.p 0) (.F .u64 (.w 222))) (.p 8)) (.F .u64 (.w 221))) (.p 8)) (.F .u64 (.w 220))) (.p 8)) (.F .u64 (.w 219))) (.p 8)) (.F .u64 (.w 218))) (.p 8)) (.F .u64 (.w 217))) (.p 8)) (.F .u64 (.w 216))) (.p 8)) (.F .u64 (.w 215))) .nil)) 252
(.br (.s 252)
(.call 1 [.bool] (.vs 144 9 (.cons (.f .or .u64 (.f .shl .u64 (.f .or .u64 (.f .shl .u64 (.f .or .u64 (.f .shl .u64 (.f .or .u64 (.f .shl .u64 (.f .or .u64 (.f .shl .u64 (.f .or .u64 (.f .shl .u64 (.f .or .u64 (.f .shl .u64 (.f .or .u64 (.p 0) (.F .u64 (.w 230))) (.p 8)) (.F .u64 (.w 229))) (.p 8)) (.F .u64 (.w 228))) (.p 8)) (.F .u64 (.w 227))) (.p 8)) (.F .u64 (.w 226))) (.p 8)) (.F .u64 (.w 225))) (.p 8)) (.F .u64 (.w 224))) (.p 8)) (.F .u64 (.w 223))) .nil)) 253
(.br (.s 253)
(.call 1 [.bool] (.vs 153 9 (.cons (.f .or .u64 (.f .shl .u64 (.f .or .u64 (.f .shl .u64 (.f .or .u64 (.f .shl .u64 (.f .or .u64 (.f .shl .u64 (.f .or .u64 (.f .shl .u64 (.f .or .u64 (.f .shl .u64 (.f .or .u64 (.f .shl .u64 (.f .or .u64 (.p 0) (.F .u64 (.w 238))) (.p 8)) (.F .u64 (.w 237))) (.p 8)) (.F .u64 (.w 236))) (.p 8)) (.F .u64 (.w 235))) (.p 8)) (.F .u64 (.w 234))) (.p 8)) (.F .u64 (.w 233))) (.p 8)) (.F .u64 (.w 232))) (.p 8)) (.F .u64 (.w 231))) .nil)) 254
(.br (.s 254)
(.call 1 [.bool] (.vs 162 9 (.cons (.f .or .u64 (.f .shl .u64 (.f .or .u64 (.f .shl .u64 (.f .or .u64 (.f .shl .u64 (.f .or .u64 (.f .shl .u64 (.f .or .u64 (.f .shl .u64 (.f .or .u64 (.f .shl .u64 (.f .or .u64 (.f .shl .u64 (.f .or .u64 (.p 0) (.F .u64 (.w 246))) (.p 8)) (.F .u64 (.w 245))) (.p 8)) (.F .u64 (.w 244))) (.p 8)) (.F .u64 (.w 243))) (.p 8)) (.F .u64 (.w 242))) (.p 8)) (.F .u64 (.w 241))) (.p 8)) (.F .u64 (.w 240))) (.p 8)) (.F .u64 (.w 239))) .nil)) 255
(.br (.s 255)
zlT
zlF))
zlF))
zlF))
zlF))
zlF))
zlF))
zlF))
zlF)))))))))))))
zlF))
def apa:cb ael (FJ 0 [c_ymay,c_yhold]) [] [] [(5,[.top 16]++E1 [(4,1),(17,25)])] 400 Tryz.f10 c_yhas.a c_yhas.r (tp c_yhas.r) (v_Sta (v_Snap [])) ym:=E0 (by kernel_rfl)
def asL:c_yhas.Ok ZF:=
 GE ym (v_Sta (v_Snap [])) lW (Am asK<|Am aqa AI) Tryz.func10 E2 apa<|dS fun s hs=>abV fun x hx hp U g=>by
 have Aq:=g;simp only[c_yhas,bT,fq,mr,rdZ,rdB,rdL];simp only[bX,AD,cN,AB,ZD]at g;simp(maxSteps:=10000000) only[ym,Ki,c_ymay,c_yhold,DJ,rdZ,rdB,rdL,c_yhas,bX,AD,cN,Ai,ZH,ZD,-eq_self,bF,g];obtain⟨_,_,_,_,_,_,_,_,_,_,_,_,TY,Ua,TG,VS,VO,UH,Wu,Us,Uu,Vh,Wi,UB,Wn,TE,Ur,VQ,UE,Wv,Vp,UF,V4,V8,Uo,Uv,Uz,UO,Vt,Wx,Wk,VX,Ul,Vn,UX,Wc,Wt,V1,T3,Wa,Ug,TS,Vb,TV,VF,UU,T6,TL,Vg,VV,Vj,V7,Uy,We,UA,TH,TN,Vq,V9,Wh,VY,Uw,TO,Wm,UG,TZ⟩:=hx;refine aG ?_;apply aI<;>intro c0;refine⟨fun _=>rok x.set 0 s.r0 x.r0=ZB,?_,?_⟩;apply aI<;>intro c1;refine aG ?_;apply aI<;>intro c2
 .exact gD c1 c2
 .simp only[Ar,ce (set:=x.set) (i:=0) c2,aq,ap]
 apply aI<;>intro c3
 .simp only[Ar,gC (i:=0) (v:=x.r0) c1 (show A6 x.set 0=ZC by unfold A6;have h:=c3;rw[bB]at h;simpa using h),aq,ap]
 refine aG ?_;apply aI<;>intro c4
 .exact gB (show A6 x.set 0=ZB by unfold A6;have h:=c3;rw[bB]at h;simpa using h) c4
 .simp only[Ar,ce (set:=x.set) (i:=0) c4,aq,ap]
 intro U0 Ll _ hi0;have FB:=(aW Ll _ 0 ST).trans Aq;have g0:=FB;simp only[bX,AD,cN,AB,ZD]at g0;simp only[g0,-eq_self];refine⟨fun _=>rok x.set 1 s.r1 x.r1=ZB,?_,?_⟩;apply aI<;>intro c5;refine aG ?_;apply aI<;>intro c6
 .exact gD c5 c6
 .simp only[Ar,ce (set:=x.set) (i:=1) c6,aq,ap]
 apply aI<;>intro c7
 .simp only[Ar,gC (i:=1) (v:=x.r1) c5 (show A6 x.set 1=ZC by unfold A6;have h:=c7;rw[bB]at h;simpa using h),aq,ap]
 refine aG ?_;apply aI<;>intro c8
 .exact gB (show A6 x.set 1=ZB by unfold A6;have h:=c7;rw[bB]at h;simpa using h) c8
 .simp only[Ar,ce (set:=x.set) (i:=1) c8,aq,ap]
 intro U1 AZ _ Ba;have Aj:=(aW AZ _ 0 ST).trans FB;have g1:=Aj;simp only[bX,AD,cN,AB,ZD]at g1;simp only[g1,-eq_self];refine⟨fun _=>rok x.set 2 s.r2 x.r2=ZB,?_,?_⟩;apply aI<;>intro c9;refine aG ?_;apply aI<;>intro BF
 .exact gD c9 BF
 .simp only[Ar,ce (set:=x.set) (i:=2) BF,aq,ap]
 apply aI<;>intro CG
 .simp only[Ar,gC (i:=2) (v:=x.r2) c9 (show A6 x.set 2=ZC by unfold A6;have h:=CG;rw[bB]at h;simpa using h),aq,ap]
 refine aG ?_;apply aI<;>intro Ca
 .exact gB (show A6 x.set 2=ZB by unfold A6;have h:=CG;rw[bB]at h;simpa using h) Ca
 .simp only[Ar,ce (set:=x.set) (i:=2) Ca,aq,ap]
 intro U2 Cj _ Gx;have Fp:=(aW Cj _ 0 ST).trans Aj;have g2:=Fp;simp only[bX,AD,cN,AB,ZD]at g2;simp only[g2,-eq_self];refine⟨fun _=>rok x.set 3 s.r3 x.r3=ZB,?_,?_⟩;apply aI<;>intro Cp;refine aG ?_;apply aI<;>intro CD
 .exact gD Cp CD
 .simp only[Ar,ce (set:=x.set) (i:=3) CD,aq,ap]
 apply aI<;>intro C3
 .simp only[Ar,gC (i:=3) (v:=x.r3) Cp (show A6 x.set 3=ZC by unfold A6;have h:=C3;rw[bB]at h;simpa using h),aq,ap]
 refine aG ?_;apply aI<;>intro Dk
 .exact gB (show A6 x.set 3=ZB by unfold A6;have h:=C3;rw[bB]at h;simpa using h) Dk
 .simp only[Ar,ce (set:=x.set) (i:=3) Dk,aq,ap]
 intro U3 Bd _ Is;have FS:=(aW Bd _ 0 ST).trans Fp;have g3:=FS;simp only[bX,AD,cN,AB,ZD]at g3;simp only[g3,-eq_self];refine⟨fun _=>rok x.set 4 s.r4 x.r4=ZB,?_,?_⟩;apply aI<;>intro Dg;refine aG ?_;apply aI<;>intro Dh
 .exact gD Dg Dh
 .simp only[Ar,ce (set:=x.set) (i:=4) Dh,aq,ap]
 apply aI<;>intro DB
 .simp only[Ar,gC (i:=4) (v:=x.r4) Dg (show A6 x.set 4=ZC by unfold A6;have h:=DB;rw[bB]at h;simpa using h),aq,ap]
 refine aG ?_;apply aI<;>intro Dz
 .exact gB (show A6 x.set 4=ZB by unfold A6;have h:=DB;rw[bB]at h;simpa using h) Dz
 .simp only[Ar,ce (set:=x.set) (i:=4) Dz,aq,ap]
 intro U4 ML _ PS;have FA:=(aW ML _ 0 ST).trans FS;have g4:=FA;simp only[bX,AD,cN,AB,ZD]at g4;simp only[g4,-eq_self];refine⟨fun _=>rok x.set 5 s.r5 x.r5=ZB,?_,?_⟩;apply aI<;>intro EM;refine aG ?_;apply aI<;>intro FX
 .exact gD EM FX
 .simp only[Ar,ce (set:=x.set) (i:=5) FX,aq,ap]
 apply aI<;>intro G3
 .simp only[Ar,gC (i:=5) (v:=x.r5) EM (show A6 x.set 5=ZC by unfold A6;have h:=G3;rw[bB]at h;simpa using h),aq,ap]
 refine aG ?_;apply aI<;>intro HO
 .exact gB (show A6 x.set 5=ZB by unfold A6;have h:=G3;rw[bB]at h;simpa using h) HO
 .simp only[Ar,ce (set:=x.set) (i:=5) HO,aq,ap]
 intro U5 LO _ Rp;have Fc:=(aW LO _ 0 ST).trans FA;have g5:=Fc;simp only[bX,AD,cN,AB,ZD]at g5;simp only[g5,-eq_self];refine⟨fun _=>rok x.set 6 s.r6 x.r6=ZB,?_,?_⟩;apply aI<;>intro Gk;refine aG ?_;apply aI<;>intro JD
 .exact gD Gk JD
 .simp only[Ar,ce (set:=x.set) (i:=6) JD,aq,ap]
 apply aI<;>intro IA
 .simp only[Ar,gC (i:=6) (v:=x.r6) Gk (show A6 x.set 6=ZC by unfold A6;have h:=IA;rw[bB]at h;simpa using h),aq,ap]
 refine aG ?_;apply aI<;>intro Jf
 .exact gB (show A6 x.set 6=ZB by unfold A6;have h:=IA;rw[bB]at h;simpa using h) Jf
 .simp only[Ar,ce (set:=x.set) (i:=6) Jf,aq,ap]
 intro U6 LC _ Qm;have Fs:=(aW LC _ 0 ST).trans Fc;have g6:=Fs;simp only[bX,AD,cN,AB,ZD]at g6;simp only[g6,-eq_self];refine⟨fun _=>rok x.set 7 s.r7 x.r7=ZB,?_,?_⟩;apply aI<;>intro Kd;refine aG ?_;apply aI<;>intro Kg
 .exact gD Kd Kg
 .simp only[Ar,ce (set:=x.set) (i:=7) Kg,aq,ap]
 apply aI<;>intro Kt
 .simp only[Ar,gC (i:=7) (v:=x.r7) Kd (show A6 x.set 7=ZC by unfold A6;have h:=Kt;rw[bB]at h;simpa using h),aq,ap]
 refine aG ?_;apply aI<;>intro JM
 .exact gB (show A6 x.set 7=ZB by unfold A6;have h:=Kt;rw[bB]at h;simpa using h) JM
 .simp only[Ar,ce (set:=x.set) (i:=7) JM,aq,ap]
 intro U7 Ls _ Q3;have FK:=(aW Ls _ 0 ST).trans Fs;have g7:=FK;simp only[bX,AD,cN,AB,ZD]at g7;simp only[g7,-eq_self];refine⟨fun _=>rok x.set 8 s.r8 x.r8=ZB,?_,?_⟩;apply aI<;>intro K6;refine aG ?_;apply aI<;>intro KM
 .exact gD K6 KM
 .simp only[Ar,ce (set:=x.set) (i:=8) KM,aq,ap]
 apply aI<;>intro Ly
 .simp only[Ar,gC (i:=8) (v:=x.r8) K6 (show A6 x.set 8=ZC by unfold A6;have h:=Ly;rw[bB]at h;simpa using h),aq,ap]
 refine aG ?_;apply aI<;>intro LX
 .exact gB (show A6 x.set 8=ZB by unfold A6;have h:=Ly;rw[bB]at h;simpa using h) LX
 .simp only[Ar,ce (set:=x.set) (i:=8) LX,aq,ap]
 intro U8 ha8 _ hi8;have FV:=(aW ha8 _ 0 ST).trans FK;have g8:=FV;simp only[bX,AD,cN,AB,ZD]at g8;simp only[g8,-eq_self];refine⟨fun _=>rok x.set 9 s.r9 x.r9=ZB,?_,?_⟩;apply aI<;>intro Ko;refine aG ?_;apply aI<;>intro Lu
 .exact gD Ko Lu
 .simp only[Ar,ce (set:=x.set) (i:=9) Lu,aq,ap]
 apply aI<;>intro LH
 .simp only[Ar,gC (i:=9) (v:=x.r9) Ko (show A6 x.set 9=ZC by unfold A6;have h:=LH;rw[bB]at h;simpa using h),aq,ap]
 refine aG ?_;apply aI<;>intro KZ
 .exact gB (show A6 x.set 9=ZB by unfold A6;have h:=LH;rw[bB]at h;simpa using h) KZ
 .simp only[Ar,ce (set:=x.set) (i:=9) KZ,aq,ap]
 intro U9 WD _ hi9;have E9:=(aW WD _ 0 ST).trans FV;have g9:=E9;simp only[bX,AD,cN,AB,ZD]at g9;simp only[g9,-eq_self];refine⟨fun _=>rok x.set 10 s.r10 x.r10=ZB,?_,?_⟩;apply aI<;>intro KR;refine aG ?_;apply aI<;>intro Kb
 .exact gD KR Kb
 .simp only[Ar,ce (set:=x.set) (i:=10) Kb,aq,ap]
 apply aI<;>intro JY
 .simp only[Ar,gC (i:=10) (v:=x.r10) KR (show A6 x.set 10=ZC by unfold A6;have h:=JY;rw[bB]at h;simpa using h),aq,ap]
 refine aG ?_;apply aI<;>intro LF
 .exact gB (show A6 x.set 10=ZB by unfold A6;have h:=JY;rw[bB]at h;simpa using h) LF
 .simp only[Ar,ce (set:=x.set) (i:=10) LF,aq,ap]
 intro U10 OC _ Pm;have Hl:=(aW OC _ 0 ST).trans E9;have RD:=Hl;simp only[bX,AD,cN,AB,ZD]at RD;simp only[RD,-eq_self];refine aG ?_;apply aI<;>intro Kh;refine aG ?_;apply aI<;>intro H9;refine aG ?_;apply aI<;>intro Ka;refine aG ?_;apply aI<;>intro Kc;refine aG ?_;apply aI<;>intro Kq;refine aG ?_;apply aI<;>intro J9;refine aG ?_;apply aI<;>intro Kj;refine aG ?_;apply aI<;>intro JR
 .rw[Aw Us,Aw Wu,Aw UH,Aw VO,Aw VS,Aw TG,Aw Ua,Aw TY,dz TY Ua TG VS VO UH Wu Us]at Kh;rw[Aw VQ,Aw Ur,Aw TE,Aw Wn,Aw UB,Aw Wi,Aw Vh,Aw Uu,dz Uu Vh Wi UB Wn TE Ur VQ]at H9;rw[Aw Uv,Aw Uo,Aw V8,Aw V4,Aw UF,Aw Vp,Aw Wv,Aw UE,dz UE Wv Vp UF V4 V8 Uo Uv]at Ka;rw[Aw Vn,Aw Ul,Aw VX,Aw Wk,Aw Wx,Aw Vt,Aw UO,Aw Uz,dz Uz UO Vt Wx Wk VX Ul Vn]at Kc;rw[Aw TS,Aw Ug,Aw Wa,Aw T3,Aw V1,Aw Wt,Aw Wc,Aw UX,dz UX Wc Wt V1 T3 Wa Ug TS]at Kq;rw[Aw VV,Aw Vg,Aw TL,Aw T6,Aw UU,Aw VF,Aw TV,Aw Vb,dz Vb TV VF UU T6 TL Vg VV]at J9;rw[Aw Vq,Aw TN,Aw TH,Aw UA,Aw We,Aw Uy,Aw V7,Aw Vj,dz Vj V7 Uy We UA TH TN Vq]at Kj;rw[Aw TZ,Aw UG,Aw Wm,Aw TO,Aw Uw,Aw VY,Aw Wh,Aw V9,dz V9 Wh VY Uw TO Wm UG TZ]at JR;simp only[Ar,aZ,c0,Kh,H9,Ka,Kc,Kq,J9,Kj,JR,hi0,Ba,Gx,Is,PS,Rp,Qm,Q3,hi8,hi9,Pm,Bool.and_true,Bool.true_and]
 .rw[Aw TZ,Aw UG,Aw Wm,Aw TO,Aw Uw,Aw VY,Aw Wh,Aw V9,dz V9 Wh VY Uw TO Wm UG TZ]at JR;simp only[Ar,aZ,JR,aq,ap]
 .rw[Aw Vq,Aw TN,Aw TH,Aw UA,Aw We,Aw Uy,Aw V7,Aw Vj,dz Vj V7 Uy We UA TH TN Vq]at Kj;simp only[Ar,aZ,Kj,aq,ap]
 .rw[Aw VV,Aw Vg,Aw TL,Aw T6,Aw UU,Aw VF,Aw TV,Aw Vb,dz Vb TV VF UU T6 TL Vg VV]at J9;simp only[Ar,aZ,J9,aq,ap]
 .rw[Aw TS,Aw Ug,Aw Wa,Aw T3,Aw V1,Aw Wt,Aw Wc,Aw UX,dz UX Wc Wt V1 T3 Wa Ug TS]at Kq;simp only[Ar,aZ,Kq,aq,ap]
 .rw[Aw Vn,Aw Ul,Aw VX,Aw Wk,Aw Wx,Aw Vt,Aw UO,Aw Uz,dz Uz UO Vt Wx Wk VX Ul Vn]at Kc;simp only[Ar,aZ,Kc,aq,ap]
 .rw[Aw Uv,Aw Uo,Aw V8,Aw V4,Aw UF,Aw Vp,Aw Wv,Aw UE,dz UE Wv Vp UF V4 V8 Uo Uv]at Ka;simp only[Ar,aZ,Ka,aq,ap]
 .rw[Aw VQ,Aw Ur,Aw TE,Aw Wn,Aw UB,Aw Wi,Aw Vh,Aw Uu,dz Uu Vh Wi UB Wn TE Ur VQ]at H9;simp only[Ar,aZ,H9,aq,ap]
 .rw[Aw Us,Aw Wu,Aw UH,Aw VO,Aw VS,Aw TG,Aw Ua,Aw TY,dz TY Ua TG VS VO UH Wu Us]at Kh;simp only[Ar,aZ,Kh,aq,ap]
 .simp only[Ar,c0,aq]
def acG{P:Program}{t e:TypeId}{ks:List CE}(r:Rw P e ks)(Eo:0<ks.length)(ht:P.underlying t=ZA (.slice e)){enc:TypeId×Value->H}{hd:Bool}{v:Value}{fuel:Nat}{x:DataW H×List MemPlace}(hf:DataW.trod enc P W 0 (fun _=>ZB) hd fuel t [v]=ZA x):∃L s,v=s.v/\s.n=L.length/\RdRow W ks.length s (flat ks L)/\RowsIn ks L/\∀k,s.blk ZC=ZA k->k<W.heap.size:=by
 obtain⟨a0,Hz,Jx,CT⟩:=Go.Joins.slice_form ht hf;obtain rfl:v=.slice a0 Hz Jx:=by simpa using CT
 rcases Go.Deep.open_slice ht hf with⟨h1,_⟩|⟨a,len,Hp,m,n,D,Pl,h1,_,hl,hm,hmm,_,Nv⟩
 .simp only[Be,Value.slice.injEq,and_true]at h1;obtain⟨rfl,rfl,rfl⟩:=h1;exact⟨[],⟨ZE,0,0,[]⟩,rfl,rfl,⟨by simp[flat],ZK _,by simp[maxLen],fun _=>⟨rfl,rfl⟩,fun a ha=>(by cases ha)⟩,⟨fun r hr=>(by cases hr),by simp⟩,fun k hk=>by have:=aA hk;cases this⟩
 .simp only[Be,Value.slice.injEq,and_true]at h1;obtain⟨rfl,rfl,rfl⟩:=h1;have hmc:m=Jx:=by rw[hmm];rfl
  subst hmc;rw[r.cells]at Nv;have key:∀i,i<Hz->∃x,W.cells? 0 (a.add (i*ks.length)) ks.length=ZA (Bi ks x)/\av ks x=ZB:=fun i hi=>by obtain⟨Gu,h1,h2⟩:=Nv i Fn;obtain⟨x,hx,F9⟩:=r.opn h2;exact⟨x,by rw[<-hx];exact h1,F9⟩
  obtain⟨L,hL,hq⟩:=abA key;have AV:∀x∈L,av ks x=ZB:=fun x hx=>by obtain⟨i,hi,he⟩:=List.getElem_of_mem hx;exact(hq i x (by rw[AH hi,he])).2
  refine⟨L,⟨ZA a,Hz,m,[]⟩,rfl,hL.symm,⟨?_,hl,hm,fun ha=>(by cases ha),fun a' C0 i u hu=> ?_⟩,⟨AV,by rw[hL];exact cX hl hm⟩,fun k hk=> ?_⟩
  .rw[bP AV,hL]
  .cases C0;have As:i<(flat ks L).length:=(cZ.1 hu).1;rw[bP AV]at As;have hi:i / ks.length<L.length:=Nat.div_lt_of_lt_mul (by rw[Nat.mul_comm];exact As);have hc:i % ks.length<ks.length:=Nat.mod_lt _ Eo;have e1:i=i / ks.length*ks.length+i % ks.length:=by rw[Nat.mul_comm];exact(Nat.div_add_mod _ _).symm
   rw[e1,mJ (AH hc) AV hi]at hu;obtain⟨q1,q2⟩:=hq (i / ks.length) L[i / ks.length] (AH hi);obtain⟨_,A0,Dx⟩:=World.cells?_some q1;have h3:=Dx (i % ks.length) hc;rw[oE q2 (AH hc)]at h3;have hg:L.getD (i / ks.length) []=L[i / ks.length]:=by rw[bV,AH hi];rfl
   rw[hg]at hu;rw[e1,<-bU,h3];exact hu
  .have hc:m≠0:=fun hc=>by
    unfold SV.blk at hk;simp[hc]at hk
   obtain⟨Gu,h1,h2⟩:=Nv 0 Fn;have h4:=acb h1 Eo;have h5:=aA hk;simp only[SV.v,Value.ownBlock,bv]at h5;rw[<-h5];have:(a.add (0*ks.length)).block=a.block:=YI;rw[<-this];exact h4.1
def J1:Rw ZF 38 [ZA .i8]:=Rw.int .i8 Tryz.underlying38 (by kernel_rfl)
def rwI64:Rw ZF 3 [ZA .i64]:=Rw.int .i64 Tryz.underlying3 (by kernel_rfl)
def rwBo:Rw ZF 4 [ZE]:=Rw.bool Tryz.underlying4 (by kernel_rfl)
def auK:Rw ZF 66 [ZA .i8,ZA .i8,ZA .i8,ZA .i8,ZE,ZA .i8,ZA .i8,ZA .i64,ZA .i64]:=by refine Rw.struct (ks:=[ZA .i8,ZA .i8,ZA .i8,ZA .i8,ZE,ZA .i8,ZA .i8,ZA .i64,ZA .i64]) ?_ Tryz.underlying66 (by kernel_rfl);exact(RwSeq.cons (ks:=[ZA .i8]) J1 (by rfl) (RwSeq.cons (ks:=[ZA .i8]) J1 (by rfl) (RwSeq.cons (ks:=[ZA .i8]) J1 (by rfl) (RwSeq.cons (ks:=[ZA .i8]) J1 (by rfl) (RwSeq.cons (ks:=[ZE]) rwBo (by rfl) (RwSeq.cons (ks:=[ZA .i8]) J1 (by rfl) (RwSeq.cons (ks:=[ZA .i8]) J1 (by rfl) (RwSeq.cons (ks:=[ZA .i64]) rwI64 (by rfl) (RwSeq.cons (ks:=[ZA .i64]) rwI64 (by rfl) (RwSeq.nil _ _))))))))))
def Prog.of_arg{enc:TypeId×Value->H}{hd:Bool}{v:Value}{d:DataW H}{p:List MemPlace}{rc:Reach}{b0:Nat}(hv:Value.okWide ZF W rc b0 24 v)(h:DataW.Trod enc ZF W 0 (fun _=>ZB) hd 24 v d p):∃(c:Int) (L:List (List Int)) (s:_),v=.agg #[.int .i64 c,SV.v s]/\Ae .i64 c=ZB/\s.n=L.length/\RdRow W 9 s (flat [ZA .i8,ZA .i8,ZA .i8,ZA .i8,ZE,ZA .i8,ZA .i8,ZA .i64,ZA .i64] L)/\RowsIn [ZA .i8,ZA .i8,ZA .i8,ZA .i8,ZE,ZA .i8,ZA .i8,ZA .i64,ZA .i64] L/\∀k,s.blk ZC=ZA k->k<W.heap.size:=by
 obtain⟨v0,v1,y0,y1,n,rfl,_,_,h0,h1⟩:=Go.Joins.open_agg2 Tryz.underlying24 (by kernel_rfl) (by kernel_rfl) hv h;obtain⟨q,e0,hq⟩:=rwI64.opn h0;obtain⟨L,s,rfl,h2,h3,h4,h5⟩:=acG auK ST Tryz.underlying22 h1;obtain⟨c,q,rfl,hc,hq⟩:=acP hq;obtain rfl:=agy hq;simp only[Bi,Be,and_true]at e0;exact⟨c,L,s,by rw[e0];rfl,hc,h2,h3,h4,h5⟩
def aej:List (Nat×TI):=[(2,CB),
 (3,CU),
 (4,EH),
 (5,KW),
 (22,vd),
 (24,vb),
 (25,aoJ),
 (26,aoI),
 (29,VP),
 (30,Ue),
 (32,VT),
 (33,Tf),
 (36,Vy),
 (37,arJ),
 (38,fT),
 (39,eX),
 (40,Xl),
 (42,arI),
 (46,gZ),
 (48,jl),
 (50,eM),
 (52,qS),
 (53,qR),
 (54,qQ),
 (56,zY),
 (60,Su),
 (61,QA),
 (63,SJ),
 (66,qP),
 (178,aeE)]
def aea:∀t i,(t,i)∈aej->TIok ZF t i:=bi (DX (z:=Ei) ⟨ra,lh⟩<|DX (z:=Dr) ⟨qZ,lg⟩<|DX (z:=Ql) ⟨am9,aib⟩<|DX (z:=lQ) ⟨lj,ig⟩ B1) B1 (by kernel_rfl)
def acK(p:Prog)(cx:LL)(an:LL)(fu:Int):List Dt:=[.z (AE ZB)]
def kC:List Dt->List Dt
 |[.z x0,.l x1,.l x2,.l x3,.z x4]=>acK ⟨x0,x1⟩ x2 x3 x4
 |_=>[]
def nr:Tr:=
(.cut 0 5 [.bool]
(.call 0 [.bool] (.cons (.w 0) (.N (.g 1) .nil)) 5
(.br (.s 5)
(.next 0 (.j (.tt ZB) .nil))
(.br (.lt (.p 256) (.len (.g 2)))
(.next 0 (.j (.tt ZB) .nil))
(.br (.lt (.p 100) (.len (.g 3)))
(.next 0 (.j (.tt ZB) .nil))
(.br (.lt (.w 4) (.p 0))
(.next 0 (.j (.tt ZB) .nil))
(.next 0 (.j (.lt (.p 2000) (.w 4)) .nil)))))))
(.br (.s 5)
(.call 1 [.bool] .nil 6
(.u (.j (.s 6) .nil)))
(.call 2 ([.sl [ZE] 4,.sl EE 56]++[.int .i64]++[.int .i64]) (.cons (.w 0) (.N (.g 1) .nil)) 6
(.br (.eq (.w 9) (.p 0))
(.br (.eq (.len (.g 2)) (.w 0))
(.call 3 ([.sl [ZA .i64] 3]++[.sl LN 63]++kOut++[.int .i64]) (.cons (.w 0) (.N (.g 1) (.N (.g 2) (.N (.g 3) (.cons (.w 4) .nil))))) 10
(.br (.eq (.w 17) (.p 0))
(.br (.eq (.w 12) (.p 3))
zlF
(.br (.eq (.len (.g 10)) (.len (.g 11)))
(.loop 1 18 [.int .i64] (.cons (.p 0) .nil)
(.br (.lt (.w 18) (.len (.g 11)))
(.br (.lt (.w 18) (.p 0))
.panic
(.br (.lt (.w 18) (.len (.g 10)))
(.call 4 (kSta++[.bool]) (.N (.g 6) (.N (.g 7) (.cons (.get (.g 10) (.w 18) 0) .nil))) 19
(.br (.s 190)
(.call 5 [.bool] (.vs 19 171 (.gs (.g 11) (.w 18) 0 76 .nil)) 191
(.br (.s 191)
(.call 6 [.bool] (.vs 19 171 (.gs (.g 11) (.w 18) 0 76 .nil)) 192
(.br (.s 192)
(.next 1 (.cons (.f .add .i64 (.w 18) (.p 1)) .nil))
zlF))
zlF))
zlF))
.panic))
(.call 1 [.bool] .nil 19
(.u (.j (.s 19) .nil)))))
zlF))
zlF))
(.call 1 [.bool] .nil 10
(.u (.j (.s 10) .nil))))
(.call 1 [.bool] .nil 10
(.u (.j (.s 10) .nil)))))))
def sP_lvsound:Spec:={F:=fun k=>match k with|0=>c_lgreat.F|1=>yA|2=>tI|3=>c_jsnaps.F|4=>c_vat.F|5=>c_thas.F|6=>c_yhas.F|_=>fun _=>[],pre:=fun k=>match k with|0=>jI|2=>pI|3=>jJ|4=>Vo|_=>fun _=>True,hw:=Jc,hx:=UN,hi:=UK}
def acL:cb aej [c_lgreat.m 0,yx 1,tH 2,c_jsnaps.m 3,c_vat.m 4,c_thas.m 5,c_yhas.m 6] [] [(10,[.tmpI 82 .i64]++E1 [(8,1),(16,3),(83,32)]),(999999,[])] [(2,[.tmpB 38]++E1 [(19,19)])] 200 Tryz.f3 [.agg kProg,.one (.sl [ZA .u8] 5),.one (.sl [ZA .u64] 39),.one (.int .i64)] [.one .bool] ZC (v_Prog [.list [ZA .u8],.list [ZA .u64],.int .i64]) nr:=E0 (by kernel_rfl)
def aoY(g:Nat->Int):Snap:=⟨g 0,g 1,g 2,g 3,g 4,g 5,g 6,g 7,g 8,g 9,g 10,g 11,g 12,g 13,g 14,g 15,g 16,g 17,g 18,g 19,g 20,g 21,g 22,g 23,g 24,g 25,g 26,g 27,g 28,g 29,g 30,g 31,g 32,g 33,g 34,g 35,g 36,g 37,g 38,g 39,g 40,g 41,g 42,g 43,g 44,g 45,g 46,g 47,g 48,g 49,g 50,g 51,g 52,g 53,g 54,g 55,g 56,g 57,g 58,g 59,g 60,g 61,g 62,g 63,g 64,g 65,g 66,g 67,g 68,g 69,g 70,g 71,g 72,g 73,g 74,g 75⟩
def aup(U:Env)(l i t:E):(E.gs l i 0 76 t).D U=d_Snap (aoY (gt (l.R U) (i.I U))) (t.D U):=by kernel_rfl
def aoX{L:LL}{p:Prog}{m:Ms}(W:WM p m)(h:L[n]? =ZA (gJ m)):aoY (gt L (n:Int))=dx m:=by
 have e:gt L (n:Int)=fun c=>(gJ m).getD c 0:=by funext c;unfold gt;rw[cS,show L.getD n []=gJ m from by rw[bV,h];rfl]
 rw[e,aff W.rl W.fl];rfl
def wx{p:Prog}:∀(f:Nat) (m:Ms),(ez p f m).length<=f
 |0,m=>ZK _
 |f+1,m=>by
   unfold ez;split
   .rw[List.length_cons];have:=wx (p:=p) f (DA p m);omega
   .simp
def apn{p:Prog}{cx an:LL}{fu:Int}(hl:p.l.length<=maxLen)(h:(AC p).2.2.2=0)(hc:RowsIn [ZA .u8] cx)(ha:RowsIn [ZA .u64] an)(CV:(cx.length:Int)=p.ctx)(h0:0<=fu)(h1:fu<=2000):
  (Cl p cx an fu).2=0/\(Cl p cx an fu).1.kind≠3/\(cQ p cx an fu).1.length=(cQ p cx an fu).2.length/\(cQ p cx an fu).2.length<=maxLen/\∀n:Nat,n<(cQ p cx an fu).2.length->∃m,GM p m/\gt (cQ p cx an fu).1 (n:Int) 0=m.pc/\aoY (gt (cQ p cx an fu).2 (n:Int))=dx m:=by
 have ho:jV p cx fu=0:=agY (xL hl h).1 CV h0 Fn;have g:=alf hl h hc ha CV;have er:Cl p cx an fu=(ar8 (exec p fu.toNat (Gw cx an)),0):=by unfold Cl;rw[if_neg (by simp[ho])]
 have ej:cQ p cx an fu=(TW (ez p fu.toNat (Gw cx an)),mc p fu.toNat (Gw cx an)):=by unfold cQ;rw[if_neg (by simp[ho])]
 rw[er,ej];have hp:=wx (p:=p) fu.toNat (Gw cx an);have hs:=vA (p:=p) fu.toNat (Gw cx an);refine⟨rfl,se hl h _ _ g,(List.length_map _).trans hs.symm,?_,fun n hn=> ?_⟩
 .show(mc p fu.toNat (Gw cx an)).length<=_;unfold maxLen;omega
 .obtain⟨m,gm,e1,e2⟩:=pu hl h fu.toNat _ g n (by rw[<-hs];exact hn);refine⟨m,gm,?_,aoX gm.wm e2⟩;show((List.map (fun i=>[i]) (ez p fu.toNat (Gw cx an))).getD ((n:Nat):Int).toNat []).getD 0 0=_;rw[cS,show(List.map (fun i=>[i]) (ez p fu.toNat (Gw cx an))).getD n []=[m.pc]from by rw[bV,jn,e1];rfl];rfl
def asz(h:U.b n=ZB):(E.j (.s n) .nil).D U=[.z (AE ZB)]:=by show[Dt.z (AE (U.b n))]=_;rw[h]
def auh(sn st:LL)(i:Int):c_vat.F [.l sn,.l st,.z i]=d_Sta (HM sn st i) [.z (AE (Ek sn st i))]:=aui ⟨sn,st⟩ i
def auk(s:Sta)(x:Snap):c_thas.F (d_Sta s (d_Snap x []))=[.z (AE (Ar s x))]:=by simp only[c_thas,bT,mr]
def aud(s:Sta)(x:Snap):c_yhas.F (d_Sta s (d_Snap x []))=[.z (AE (Ar s x))]:=by simp only[c_yhas,bT,mr]
def F_js(p:Prog)(cx an:LL)(fu:Int):c_jsnaps.F (d_Prog p [.l cx,.l an,.z fu])=.l (cQ p cx an fu).1::.l (cQ p cx an fu).2::d_Out (Cl p cx an fu).1 [.z (Cl p cx an fu).2]:=by simp only[c_jsnaps,wu,rdL,rdZ]
def Tq:List CK->Nat->Bool
 |.bool::_,0=>ZB
 |.int _::ks,m+1=>Tq ks m
 |_,_=>ZC
def ab0{U:Env}{ds:List Dt}{v0:Nat}:∀(ks:List CK) (n m:Nat),Tq ks m=ZB->eqs U ds v0 n ks->U.b (v0+(n+m))=dB ds (n+m)
 |.bool::ks,n,0,_,h=>h.1
 |.int k::ks,n,m+1,hk,h=>by have:=ab0 ks (n+1) m hk h.2;rw[show n+(m+1)=n+1+m by omega];exact this
def atJ{S:Sta}{b:Bool}{v0:Nat}(h:eqs U (d_Sta S [.z (AE b)]) v0 0 (kSta++[.bool])):U.b (v0+171)=b:=by have e:U.b (v0+171)=dB (d_Sta S [.z (AE b)]) 171:=ab0 _ 0 171 XZ h;exact e.trans (ov b)
def acJ(p:Prog)(hp:Prog.ok p)(cx:LL)(PL:RowsIn [ZA .u8] cx)(an:LL)(han:RowsIn [ZA .u64] an)(fu:Int)(hfu:Ae .i64 fu=ZB):Cn nr sP_lvsound (v_Prog [.list [ZA .u8],.list [ZA .u64],.int .i64]) (d_Prog p [.l cx,.l an,.z fu]) kC:=by
 intro U g;have hl:p.l.length<=maxLen:=hp.2.len;have hF:kC (d_Prog p [.l cx,.l an,.z fu])=[.z (AE ZB)]:=by simp only[kC,wu,rdL,rdZ];rfl
 rw[hF];have g':Dt.z (U.i 0)::.l (U.l 1)::.l (U.l 2)::.l (U.l 3)::[.z (U.i 4)]=.z p.ctx::.l p.l::.l cx::.l an::[.z fu]:=g;simp only[Be,Dt.z.injEq,Dt.l.injEq,and_true]at g';obtain⟨g0,g1,g2,g3,g4⟩:=g';clear g;have wk:∀{U:Env} {I:Nat->List Dt->Prop} {n:Nat},(Tr.call 1 [.bool] .nil n (.u (.j (.s n) .nil))).asks sP_lvsound (fun U e=>e.D U=[.z (AE ZB)]) U I:=fun {U I n}=>az (xs:=[]) rfl trivial (fun e=>asz (e.1.trans rfl))
 have inv:∀{U1:Env} {P:List Dt->Prop} {e:E} {b:Bool},e.B U1=b->P [.z (AE b)]->P ((E.j e .nil).D U1):=fun {U1 P e b} he h=>by show P [Dt.z (AE (e.B U1))];rw[he];exact h
 unfold nr;refine⟨fun ds=>∃b:Bool,ds=[.z (AE b)]/\(b=ZC->cx.length<=256/\an.length<=100/\0<=fu/\fu<=2000),?_,?_⟩
 .refine az (xs:=[.z p.ctx,.l p.l]) (by simp only[E.D,E.I,E.R,g0,g1]) hl (fun _=> ?_);have tr:(Tr.next 0 (.j (.tt ZB) .nil)).asks sP_lvsound (fun U e=>e.D U=[.z (AE ZB)]) U (HE (fun _ _=>False) 0 fun ds=>∃b:Bool,ds=[.z (AE b)]/\(b=ZC->cx.length<=256/\an.length<=100/\0<=fu/\fu<=2000)):=
   aY ⟨ZB,rfl,fun h=>by cases h⟩
  refine⟨fun _=>tr,fun _=>⟨fun _=>tr,fun c1=>⟨fun _=>tr,fun c2=>⟨fun _=>tr,fun c3=>aY ⟨_,rfl,fun c4=> ?_⟩⟩⟩⟩⟩;simp only[E.B,E.I,E.R,g2,g3,g4]at c1 c2 c3 c4;have:=Ab c1;have:=Ab c2;have:=Ab c3;have:=Ab c4;omega
 intro U1 AZ _ Ba;obtain⟨b,Bp,hb⟩:=Ba;have b5:U1.b 5=b:=by have:[Dt.z (AE (U1.b 5))]=[.z (AE b)]:=Bp;simp only[Be,Dt.z.injEq,and_true]at this;revert this;cases U1.b 5<;>cases b<;>decide
 have q0:U1.i 0=p.ctx:=(AZ 0 ST).1.symm.trans g0;have q1:U1.l 1=p.l:=(AZ 1 ST).2.2.symm.trans g1;have q2:U1.l 2=cx:=(AZ 2 ST).2.2.symm.trans g2;have q3:U1.l 3=an:=(AZ 3 ST).2.2.symm.trans g3;have q4:U1.i 4=fu:=(AZ 4 ST).1.symm.trans g4;clear g0 g1 g2 g3 g4 AZ Bp;refine⟨fun _=>wk,fun c=> ?_⟩;obtain⟨I4,DV,hb3,hb4⟩:=hb (b5.symm.trans c);refine az (xs:=[.z p.ctx,.l p.l]) (by simp only[E.D,E.I,E.R,q0,q1]) hl (fun e=> ?_);have e6:U1.l 6=(AC p).1:=e.1;have e7:U1.l 7=(AC p).2.1:=e.2.1;have e9:U1.i 9=(AC p).2.2.2:=e.2.2.2.1;clear e;refine⟨fun c=> ?_,fun _=>wk⟩;have h:(AC p).2.2.2=0:=by simp only[E.B,E.I,e9]at c;exact Br c
 refine⟨fun c=> ?_,fun _=>wk⟩;have CV:(cx.length:Int)=p.ctx:=by simp only[E.B,E.I,E.R,q2,q0]at c;exact Br c
 obtain⟨r1,r2,r3,r4,r5⟩:=apn hl h PL han CV hb3 hb4;obtain⟨n1,n2⟩:=zM h;refine az (xs:=d_Prog p [.l cx,.l an,.z fu]) (by simp only[E.D,E.I,E.R,q0,q1,q2,q3,q4];rfl) ⟨⟨hl,by unfold maxLen;omega⟩,by unfold maxLen;omega⟩ (fun e=> ?_);rw[show sP_lvsound.F 3=c_jsnaps.F from rfl,F_js]at e;have e10:U1.l 10=(cQ p cx an fu).1:=e.1;have e11:U1.l 11=(cQ p cx an fu).2:=e.2.1;have e12:U1.i 12=(Cl p cx an fu).1.kind:=e.2.2.1;have e17:U1.i 17=(Cl p cx an fu).2:=e.2.2.2.2.2.2.2.1;clear e;refine⟨fun _=>⟨fun c=> ?_,fun _=>⟨fun _=> ?_,fun c=> ?_⟩⟩,fun c=> ?_⟩
 .simp only[E.B,E.I,e12]at c;exact absurd (Br c) r2
 rotate_left
 .simp only[E.B,E.I,E.R,e10,e11,r3]at c;simp at c
 .simp only[E.B,E.I,e17,r1]at c;cases c
 generalize hA:(cQ p cx an fu).1=A at *;generalize hS:(cQ p cx an fu).2=S at *;refine⟨fun ds=>∃n:Nat,ds=[.z (n:Int)]/\n<=S.length,fun ds=>S.length-(dI ds 0).toNat,⟨0,rfl,Nat.zero_le _⟩,?_⟩;intro U2 Cj _ Gx;obtain⟨n,Bp,hn⟩:=Gx;have f6:U2.l 6=(AC p).1:=(Cj 6 ST).2.2.symm.trans e6;have f7:U2.l 7=(AC p).2.1:=(Cj 7 ST).2.2.symm.trans e7;have f10:U2.l 10=A:=(Cj 10 ST).2.2.symm.trans e10;have f11:U2.l 11=S:=(Cj 11 ST).2.2.symm.trans e11;rw[show varsD U2 18 [.int .i64]=[.z (U2.i 18)]from rfl]at Bp ⊢;simp only[Be,Dt.z.injEq,and_true]at Bp;refine⟨fun c=> ?_,fun _=>wk⟩;have K7:n<S.length:=by simp only[E.B,E.I,E.R,f11,Bp]at c;have:=Ah c;omega
 obtain⟨m,gm,em1,em2⟩:=r5 n K7;refine⟨fun c1=> ?_,fun _=>⟨fun _=> ?_,fun c1=> ?_⟩⟩
 .simp only[E.B,E.I,Bp]at c1;have:=Ah c1;omega
 rotate_left
 .simp only[E.B,E.I,E.R,Bp,f10,r3]at c1;have:=Ab c1;omega
 refine az (xs:=[.l (AC p).1,.l (AC p).2.1,.z m.pc]) (by simp only[E.D,E.I,E.R,f6,f7,f10,Bp,em1]) ⟨by show(AC p).1.length<=_;omega,by show(AC p).2.1.length<=_;omega⟩ (fun e=> ?_);rw[show sP_lvsound.F 4=c_vat.F from rfl,auh,(gm.at h).1,(gm.at h).2]at e;have eS:Dv U2 19=iX (AC p).2.1 m.pc:=VN (ks:=[.bool]) e;have W5:U2.b 190=ZB:=atJ (S:=iX (AC p).2.1 m.pc) (v0:=19) e;clear e;refine⟨fun _=> ?_,fun c=>(by rw[show(E.s 190).B U2=ZB from W5]at c;cases c)⟩;have hX:(E.vs 19 171 (.gs (.g 11) (.w 18) 0 76 .nil)).D U2=d_Sta (iX (AC p).2.1 m.pc) (d_Snap (dx m) []):=by rw[arn,aup,eS,show(E.g 11).R U2=S from f11,show(E.w 18).I U2=(n:Int)from Bp,em2];rfl
 have Qt:Ar (iX (AC p).2.1 m.pc) (dx m)=ZB:=gm.sh;refine az _ hX trivial (fun e=> ?_);rw[show sP_lvsound.F 5=c_thas.F from rfl,auk,Qt]at e;have b191:U2.b 191=ZB:=e.1.trans rfl;clear e;refine⟨fun _=> ?_,fun c=>(by rw[show(E.s 191).B U2=ZB from b191]at c;cases c)⟩;refine az _ hX trivial (fun e=> ?_);rw[show sP_lvsound.F 6=c_yhas.F from rfl,aud,Qt]at e;have b192:U2.b 192=ZB:=e.1.trans rfl;clear e;refine⟨fun _=>aY ?_,fun c=>(by rw[show(E.s 192).B U2=ZB from b192]at c;cases c)⟩;have iE:(E.f .add .i64 (.w 18) (.p 1)).I U2=((n+1:Nat):Int):=by simp only[E.I,Bp];exact G0 K7 r4
 refine⟨⟨n+1,by simp only[E.D,iE],K7⟩,?_⟩;show S.length-((E.f .add .i64 (.w 18) (.p 1)).I U2).toNat<S.length-(U2.i 18).toNat;rw[iE,Bp];omega
def acM(xs:List Dt)(vals:List Value)(w:World)(hw:nq w [.agg kProg,.one (.sl [ZA .u8] 5),.one (.sl [ZA .u64] 39),.one (.int .i64)] xs vals)(hh:Jc w):Calls ZF 3 vals.toArray w fun e w'=>∃v,e=.returned v/\RetOk [.one .bool] ZC w w' (kC xs) v:=
 (xd (by kernel_rfl) aea (EK (akZ rfl rfl)<|EK (api rfl)<|EK (agt rfl rfl)<|EK (ak0 rfl rfl)<|EK (au1 rfl rfl)<|EK (as0 rfl rfl)<|EK (asL rfl rfl) TC) Tryz.func3 E2 acL (pre:=fun _=>True) (gS fun p gp=>fun cx gcx an gan fu gfu hp=>acJ p gp cx gcx an gan fu gfu) xs vals w hw trivial hh).2
def rwU8:Rw ZF 5 [ZA .u8]:=Rw.int .u8 Tryz.underlying5 (by kernel_rfl)
def rwU:Rw ZF 39 [ZA .u64]:=Rw.int .u64 Tryz.underlying39 (by kernel_rfl)
def qk{enc:TypeId×Value->H}{r:Reach}{b0:Nat}(v0:Value)(k0:Value.okWide ZF W r b0 24 v0)(d0:DataW H)(p0:List MemPlace)(h0:DataW.Trod enc ZF W 0 (fun _=>ZB) ZB 24 v0 d0 p0)(_:∀x∈p0,x.block<W.heap.size)(v1:Value)(k1:Value.okWide ZF W r b0 25 v1)(d1:DataW H)(p1:List MemPlace)(h1:DataW.Trod enc ZF W 0 (fun _=>ZB) ZB 25 v1 d1 p1)(_:∀x∈p1,x.block<W.heap.size)(v2:Value)(k2:Value.okWide ZF W r b0 26 v2)(d2:DataW H)(p2:List MemPlace)(h2:DataW.Trod enc ZF W 0 (fun _=>ZB) ZB 26 v2 d2 p2)(_:∀x∈p2,x.block<W.heap.size)(a3:Int)(w3:(Lit.int .i64 a3).wf=ZB)(hh:Jc W):
  Calls ZF 3 #[v0,v1,v2,.int .i64 a3] W fun e W'=>e=.returned (.bool ZB)/\Below W.heap.size W W':=by
 obtain⟨a0,q0,s0,rfl,w0,n0,m0,o0,l0⟩:=Prog.of_arg k0 h0;obtain⟨q1,s1,rfl,n1,m1,o1,l1⟩:=vB rwU8 ST Tryz.underlying25 k1 h1;obtain⟨q2,s2,rfl,n2,m2,o2,l2⟩:=vB rwU ST Tryz.underlying26 k2 h2;refine(acM ([.z a0,.l q0,.l q1,.l q2,.z a3]) _ W ⟨_,_,_,rfl,⟨_,_,_,rfl,⟨_,rfl,rfl,w0⟩,⟨_,_,_,rfl,⟨_,_,rfl,rfl,n0,m0,o0,l0⟩,⟨rfl,rfl⟩⟩⟩,⟨_,_,_,rfl,⟨_,_,rfl,rfl,n1,m1,o1,l1⟩,⟨_,_,_,rfl,⟨_,_,rfl,rfl,n2,m2,o2,l2⟩,⟨_,_,_,rfl,⟨_,rfl,rfl,(wX w3)⟩,⟨rfl,rfl⟩⟩⟩⟩⟩ hh).mono fun e W' ⟨v,he,hr⟩=> ?_;have hv:v=.bool ZB:=RetOk.says hr;rw[he,hv];exact⟨rfl,hr.ext⟩
end Go.Proofs.YtgolejfhoefeaaaGreatDoor
