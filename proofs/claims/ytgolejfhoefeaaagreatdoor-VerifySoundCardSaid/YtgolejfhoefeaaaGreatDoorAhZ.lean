import Derived.Test.YtgolejfhoefeaaaGreatDoorAfZ
import Derived.Test.YtgolejfhoefeaaaGreatDoorVzC
import Derived.Test.YtgolejfhoefeaaaGreatDoorProg
import Derived.Laws.Externs
import Derived.Test.YtgolejfhoefeaaaGreatDoorAgZ
import Derived.Test.YtgolejfhoefeaaaGreatDoorAeZ
import Derived.Lib.SmallJoins
import Derived.Test.YtgolejfhoefeaaaGreatDoorRows
set_option maxRecDepth 100000
set_option maxHeartbeats 8000000
set_option linter.defProp false
set_option linter.unusedVariables false
set_option linter.unusedSimpArgs false
namespace Go.Proofs.YtgolejfhoefeaaaGreatDoor
open Option renaming some->ZA,none->ZE
open Bool renaming true->ZB,false->ZC
open Nat renaming reduceAdd->ZD,reduceSub->ZH,le_refl->ZK
open Go.Proofs.Tryz renaming prog->ZF
open Go.IntKind renaming wrap->ZG
open List renaming cons_append->YO,nil_append->YP,append_nil->ZP,flatMap_cons->ZQ,flatMap_nil->ZS
open Int renaming ofNat_lt->YY
open Go.Proofs.Tryz
open Go Go.RowKit
variable {p q q2:Prop}{H:Type}{W:World}
def aq3:(AC ⟨0,[[0,11,64,0,0,0,0,0,0],[6,0,0,0,0,0,0,0,0]]⟩).2.2.2=0:=by kernel_rfl
def aly:(AC ⟨0,[[6,0,0,0,0,0,0,0,0]]⟩).2.2.2=110:=by kernel_rfl
def ab7:(AC ⟨4,[[1,0,0,8,0,0,1,0,0],[6,0,0,0,0,0,0,0,0]]⟩).2.2=(0,111):=by kernel_rfl
open Go.ChangeShapes Go.WideShapes
def aer:List (Nat×TI):=[(2,CC),
 (3,CZ),
 (4,EK),
 (22,vq),
 (24,vp),
 (29,Uh),
 (30,Ug),
 (32,Uf),
 (33,Qt),
 (38,fY),
 (39,fe),
 (46,ic),
 (48,jr),
 (50,eU),
 (52,rh),
 (53,rb),
 (54,ra),
 (56,vo),
 (66,qZ)]
def vg:∀t i,(t,i)∈aer->TIok ZF t i:=bl (DS (z:=Ev) ⟨ru,lx⟩<|DS (z:=Dw) ⟨rt,lw⟩<|DS (z:=lX) ⟨ly,iq⟩ B1) B1 (by kernel_rfl)
def yJ(key:Nat):Sm:=⟨5,key,[],[.one .bool],ZC⟩
def yL:List Dt->List Dt
 |[]=>[.z (AD ZB)]
 |_=>[]
def yA:Tr:=
(.call 0 ([.sl [ZE] 4,.sl EH 56]++[.int .i64]++[.int .i64]) (.cons (.p 0) (.N (.lcat (.lq .ln (.zs [0,11,64,0] (.j (.tt ZC) (.zs [0,0,0,0] .nil)))) (.lq .ln (.zs [6,0,0,0] (.j (.tt ZC) (.zs [0,0,0,0] .nil))))) .nil)) 0
(.call 0 ([.sl [ZE] 4,.sl EH 56]++[.int .i64]++[.int .i64]) (.cons (.p 0) (.N (.lq .ln (.zs [6,0,0,0] (.j (.tt ZC) (.zs [0,0,0,0] .nil)))) .nil)) 4
(.call 0 ([.sl [ZE] 4,.sl EH 56]++[.int .i64]++[.int .i64]) (.cons (.p 4) (.N (.lcat (.lq .ln (.zs [1,0,0,8] (.j (.tt ZC) (.zs [0,1,0,0] .nil)))) (.lq .ln (.zs [6,0,0,0] (.j (.tt ZC) (.zs [0,0,0,0] .nil))))) .nil)) 8
(.br (.eq (.w 3) (.p 0))
(.br (.eq (.w 7) (.p 110))
(.br (.eq (.w 10) (.p 0))
(.u (.j (.eq (.w 11) (.p 111)) .nil))
 zlF)
 zlF)
 zlF))))
def aps:Spec:={F:=fun k=>match k with|0=>tT|_=>fun _=>[],pre:=fun k=>match k with|0=>pR|_=>fun _=>True,hw:=Jr,hx:=Vl,hi:=Vj}
def apm:cg aer [tS 0] [(11,f11,[],[])] [] [] 200 f5 [] [.one .bool] ZC [] yA:=E4 (by kernel_rfl)
def apf:Cn yA aps [] [] yL:=by
 intro U g;unfold yA;refine aD (xs:=[.z 0,.l [[0,11,64,0,0,0,0,0,0],[6,0,0,0,0,0,0,0,0]]]) rfl (Nat.le_of_ble_eq_true (by kernel_rfl)) (fun e=> ?_);have a1:U.i 3=0:=e.2.2.2.1.trans aq3;clear e;refine aD (xs:=[.z 0,.l [[6,0,0,0,0,0,0,0,0]]]) rfl (Nat.le_of_ble_eq_true (by kernel_rfl)) (fun e=> ?_);have a2:U.i 7=110:=e.2.2.2.1.trans aly;clear e;refine aD (xs:=[.z 4,.l [[1,0,0,8,0,0,1,0,0],[6,0,0,0,0,0,0,0,0]]]) rfl (Nat.le_of_ble_eq_true (by kernel_rfl)) (fun e=> ?_);have a3:U.i 10=0:=e.2.2.1.trans (congrArg Prod.fst ab7);have a4:U.i 11=111:=e.2.2.2.1.trans (congrArg Prod.snd ab7);clear e;refine⟨fun _=>⟨fun _=>⟨fun _=> ?_,fun c=> ?_⟩,fun c=> ?_⟩,fun c=> ?_⟩
 .show[Dt.z (AD (U.i 11==111))]=[.z (AD ZB)];rw[a4];rfl
 .rw[show(E.eq (.w 10) (.p 0)).B U=(U.i 10==0)from rfl,a3]at c;cases c
 .rw[show(E.eq (.w 7) (.p 110)).B U=(U.i 7==110)from rfl,a2]at c;cases c
 .rw[show(E.eq (.w 3) (.p 0)).B U=(U.i 3==0)from rfl,a1]at c;cases c
def apu{sp:Spec}{key:Nat}(hF:sp.F key=yL)(hP:sp.pre key=fun _=>True:=by rfl)(hH:∀w,sp.hw w->Jr w:=by exact fun _ h=>h):SmOk ZF sp (yJ key):=TJ (s:=yJ key) (hW:=hH) hF hP (by kernel_rfl) vg (EJ (agE rfl rfl) Vn) func5 (Gw func11 EZ) apm (.inl rfl) (fun hp=>apf)
def jO:List Dt->Prop
 |[.z x0,.l x1]=>let f (pr:Prog):Prop:=pr.l.length<=maxLen;f ⟨x0,x1⟩
 |_=>False
def c_lgreat:Cd:=⟨4,[.agg kProg],[.one .bool],rd_Prog fun pr _=>[.z (AD (decide ((100:Int)<(pr.l.length:Int))))],jO⟩
def wq:Tr:=
(.u (.j (.lt (.p 100) (.len (.g 1))) .nil))
def ala:c_lgreat.Ok ZF:=
 AU (hl:=.inr (.inl ⟨(fun xs (h:jO xs) L hL=>by unfold jO at h;split at h<;>first|exact h.elim|(simp at hL;subst hL;exact h)),rfl⟩)) wq (v_Prog []) vg AI func4<|gX fun pr hpr hp U g=>by
 simp only[c_lgreat,jO,dN,b2i_one,bK,Prog.eta,Ins.eta,aj,aP]at hp;simp only[dN,AA,ZD]at g;simp only[wq,c_lgreat,dN,Ai,ZH,ZD,-eq_self,bK,Prog.eta,Ins.eta,aj,aP,g]
 .try rfl
def ct(x:Ins):Ins:=
 if x.k=0 then⟨x.k,x.op,x.w,0,x.br &&!(x.op==8),x.d,if x.br=ZB/\x.op≠8 then x.s else 0,0,if x.br=ZB\/x.op=8 then 0 else x.imm⟩
 else if x.k=1\/x.k=2 then⟨x.k,0,0,x.sz,ZC,x.d,x.s,x.off,0⟩
 else if x.k=3 then⟨x.k,x.op,0,0,x.br,x.d,if x.br=ZB then x.s else 0,x.off,if x.br=ZB then 0 else x.imm⟩
 else if x.k=4 then⟨x.k,0,0,0,ZC,0,0,x.off,0⟩
 else if x.k=5 then⟨x.k,0,0,0,ZC,0,0,0,x.imm⟩
 else⟨x.k,0,0,0,ZC,0,0,0,0⟩
def cK(x:Ins):Bool:=
 if x.k=0 then(!decide (x.op<0))&&((!decide (12<x.op))&&((x.w==32||x.w==64)&&decide (x.d<10)))
 else if x.k=1 then aR x.sz&&decide (x.d<10)
 else if x.k=2 then aR x.sz
 else if x.k=3 then(!decide (x.op<0)) &&!decide (10<x.op)
 else if x.k=5 then(!decide (x.imm<0))&&decide (x.imm<16)
 else ZB
def cJ(x y:Ins):Bool:=(x.k==y.k)&&((x.op==y.op)&&((x.w==y.w)&&((x.sz==y.sz)&&((x.br==y.br)&&((x.d==y.d)&&((x.s==y.s)&&((x.off==y.off)&&(x.imm==y.imm))))))))
def jm(x:Ins):Bool:=(!decide (x.k<0))&&((!decide (6<x.k))&&(cJ x (ct x)&&((!decide (x.d<0))&&((!decide (10<x.d))&&((!decide (x.s<0))&&((!decide (10<x.s))&&((!decide (x.off < -32768))&&(decide (x.off<32768)&&((!decide (x.imm < -2147483648))&&(decide (x.imm<2147483648)&&cK x))))))))))
def bh(x:Ins):A2 x=jm x:=by
 obtain⟨k,op,w,sz,br,d,s,off,imm⟩:=x;by_cases h0:k=0
 .subst h0;by_cases h8:op=8
  .subst h8;cases br<;>(rw[ao];simp[A2,jm,fE,gu,cA,BH,cJ,ct,cK];try omega)
  .cases br<;>(rw[ao];simp[A2,jm,fE,gu,cA,BH,cJ,ct,cK,h8];try omega)
 by_cases h1:k=1
 .subst h1;cases br<;>(rw[ao];simp[A2,jm,fE,gu,cA,BH,cJ,ct,cK];try (cases aR sz<;>simp<;>omega))
 by_cases h2:k=2
 .subst h2;cases br<;>(rw[ao];simp[A2,jm,fE,gu,cA,BH,cJ,ct,cK];try (cases aR sz<;>simp<;>omega))
 by_cases h3:k=3
 .subst h3;cases br<;>(rw[ao];simp[A2,jm,fE,gu,cA,BH,cJ,ct,cK];try omega)
 by_cases h4:k=4
 .subst h4;cases br<;>(rw[ao];simp[A2,jm,fE,gu,cA,BH,cJ,ct,cK];try omega)
 by_cases h5:k=5
 .subst h5;cases br<;>(rw[ao];simp[A2,jm,fE,gu,cA,BH,cJ,ct,cK];try omega)
 by_cases h6:k=6
 .subst h6;cases br<;>(rw[ao];simp[A2,jm,fE,gu,cA,BH,cJ,ct,cK];try omega)
 .have:¬(0<=k/\k<=6):=by omega
  rw[ao];simp[A2,jm,cA,h0,h1,h2,h3,h4,h5,h6];omega
def aqf{p:Prog}(hl:p.l.length<=maxLen):p.last=(p.l.length:Int)-1:=by unfold Prog.last;show IntKind.i64.wrap ((p.l.length:Int)-1)=_;rw[aT];simp[maxLen]at hl;omega
def aC:=aI Ins.eta (Prog.eta)
def Xh(k:q2)(h:p->q=q2:=by intro e;(try simp only[e,aC,aj,-eq_self]);rfl):p->q:=fun e=>(h e).symm▸k
def aoQ:List (Nat×TI):=[(3,CZ),
 (4,EK),
 (38,fY),
 (66,qZ)]
def jI:∀t i,(t,i)∈aoQ->TIok ZF t i:=bl (DS (z:=lX) ⟨ly,iq⟩ B1) B1 (by kernel_rfl)
def c_jsz:Cd:=⟨93,[.one (.int .i8)],[.one .bool],rdZ fun n _=>[.z (AD (aR n))],T0⟩
def amy:Tr:=
(.br (.eq (.w 0) (.p 1))
 zlT
(.br (.eq (.w 0) (.p 2))
 zlT
(.br (.eq (.w 0) (.p 4))
 zlT
(.u (.j (.eq (.w 0) (.p 8)) .nil)))))
def avk:c_jsz.Ok ZF:=
 AU amy [.int .i8] jI AI func93<|fun n hn hp U g=>by
 simp only[AA,ZD]at g;simp only[amy,c_jsz,Ai,ZH,ZD,-eq_self,aC,aj,g]
 .repeat' first|apply aI<;>intro c|exact Xt
def c_jfields:Cd:=⟨92,[.agg kIns],[.agg kIns],rd_Ins fun x _=>d_Ins (ct x) [],T0⟩
def anO:Tr:=(.u (.cons (.w 0) (.cons (.p 0) (.cons (.p 0) (.cons (.w 3) (.j (.tt ZC) (.vs 5 3 (.cons (.p 0) .nil))))))))
def rM:Tr:=
(.br (.eq (.w 0) (.p 0))
(.br (.s 4)
(.br (.eq (.w 1) (.p 8))
(.u (.vs 0 3 (.cons (.p 0) (.j (.not (.eq (.w 1) (.p 8))) (.cons (.w 5) (.zs [0,0,0] .nil))))))
(.u (.vs 0 3 (.cons (.p 0) (.j (.not (.eq (.w 1) (.p 8))) (.vs 5 2 (.cons (.p 0) (.cons (.p 0) .nil))))))))
(.br (.eq (.w 1) (.p 8))
(.u (.vs 0 3 (.cons (.p 0) (.j (.tt ZC) (.cons (.w 5) (.zs [0,0,0] .nil))))))
(.u (.vs 0 3 (.cons (.p 0) (.j (.tt ZC) (.cons (.w 5) (.cons (.p 0) (.cons (.p 0) (.cons (.w 8) .nil))))))))))
(.br (.eq (.w 0) (.p 1))
 anO
(.br (.eq (.w 0) (.p 2))
 anO
(.br (.eq (.w 0) (.p 3))
(.br (.s 4)
(.u (.vs 0 2 (.cons (.p 0) (.cons (.p 0) (.j (.s 4) (.vs 5 3 (.cons (.p 0) .nil)))))))
(.u (.vs 0 2 (.cons (.p 0) (.cons (.p 0) (.j (.s 4) (.cons (.w 5) (.cons (.p 0) (.vs 7 2 .nil)))))))))
(.br (.eq (.w 0) (.p 4))
(.u (.cons (.w 0) (.zs [0,0,0] (.j (.tt ZC) (.cons (.p 0) (.cons (.p 0) (.cons (.w 7) (.cons (.p 0) .nil))))))))
(.br (.eq (.w 0) (.p 5))
(.u (.cons (.w 0) (.zs [0,0,0] (.j (.tt ZC) (.zs [0,0,0] (.cons (.w 8) .nil))))))
(.u (.cons (.w 0) (.zs [0,0,0] (.j (.tt ZC) (.zs [0,0,0,0] .nil)))))))))))
def ahV:c_jfields.Ok ZF:=
 AU rM (v_Ins []) jI AI func92<|iW fun x hx hp U g=>by
 simp only[eB,AA,ZD]at g;simp only[rM,anO,c_jfields,eB,Ai,ZH,ZD,-eq_self,aC,aj,g]
 .repeat' first|apply aI<;>intro c|exact XI
def c_jmay:Cd:=⟨50,[.agg kIns],[.one .bool],rd_Ins fun x _=>[.z (AD (A2 x))],T0⟩
def agq:Tr:=
(.br (.lt (.w 0) (.p 0))
 zlF
(.br (.lt (.p 6) (.w 0))
 zlF
(.call 1 (kIns) (.vs 0 4 (.j (.s 4) (.vs 5 4 .nil))) 9
(.br (.eq (.w 0) (.w 9))
(.br (.eq (.w 1) (.w 10))
(.br (.eq (.w 2) (.w 11))
(.br (.eq (.w 3) (.w 12))
(.br (.beq (.s 4) (.s 13))
(.br (.eq (.w 5) (.w 14))
(.br (.eq (.w 6) (.w 15))
(.br (.eq (.w 7) (.w 16))
(.br (.eq (.w 8) (.w 17))
(.br (.lt (.w 5) (.p 0))
 zlF
(.br (.lt (.p 10) (.w 5))
 zlF
(.br (.lt (.w 6) (.p 0))
 zlF
(.br (.lt (.p 10) (.w 6))
 zlF
(.br (.lt (.w 7) (.p (-32768)))
 zlF
(.br (.lt (.w 7) (.p 32768))
(.br (.lt (.w 8) (.p (-2147483648)))
 zlF
(.br (.lt (.w 8) (.p 2147483648))
(.br (.eq (.w 0) (.p 0))
(.br (.lt (.w 1) (.p 0))
 zlF
(.br (.lt (.p 12) (.w 1))
 zlF
(.br (.eq (.w 2) (.p 32))
(.u (.j (.lt (.w 5) (.p 10)) .nil))
(.br (.eq (.w 2) (.p 64))
(.u (.j (.lt (.w 5) (.p 10)) .nil))
 zlF))))
(.br (.eq (.w 0) (.p 1))
(.call 0 [.bool] (.cons (.w 3) .nil) 18
(.br (.s 18)
(.u (.j (.lt (.w 5) (.p 10)) .nil))
 zlF))
(.br (.eq (.w 0) (.p 2))
(.call 0 [.bool] (.cons (.w 3) .nil) 18
(.u (.j (.s 18) .nil)))
(.br (.eq (.w 0) (.p 3))
(.br (.lt (.w 1) (.p 0))
 zlF
(.u (.j (.not (.lt (.p 10) (.w 1))) .nil)))
(.br (.eq (.w 0) (.p 5))
(.br (.lt (.w 8) (.p 0))
 zlF
(.u (.j (.lt (.w 8) (.p 16)) .nil)))
 zlT)))))
 zlF))
 zlF))))))
 zlF)
 zlF)
 zlF)
 zlF)
 zlF)
 zlF)
 zlF)
 zlF)
 zlF))))
def atr:c_jmay.Ok ZF:=
 AU agq (v_Ins []) jI (Am avk<|Am ahV AI) func50<|iW fun x hx hp U g=>by
 simp only[eB,AA,ZD]at g;simp only[agq,c_jsz,c_jfields,c_jmay,eB,Ai,ZH,ZD,-eq_self,aC,aj,g]
 .repeat' first|apply aI<;>intro c|refine Xh ?_|exact Za
def c_jtgt:Cd:=⟨51,[.one (.int .i64),.agg kIns],[.one (.int .i64),.one .bool],rdZ fun i=>rd_Ins fun x _=>[.z ((AO i x).1),.z (AD ((AO i x).2))],T0⟩
def PL:Tr:=(.u (.cons (.p 0) (.j (.tt ZC) .nil)))
def anN:Tr:=(.br (.lt (.w 0) (.p (-1099511627776)))
 PL
(.br (.lt (.p 1099511627776) (.w 0))
 PL
(.br (.lt (.w 8) (.p (-1099511627776)))
 PL
(.br (.lt (.p 1099511627776) (.w 8))
 PL
(.u (.cons (.f .add .i64 (.f .add .i64 (.w 0) (.p 1)) (.w 8)) (.j (.tt ZB) .nil)))))))
def agn:Tr:=
(.br (.eq (.w 1) (.p 3))
 anN
(.br (.eq (.w 1) (.p 4))
 anN
 PL))
def am2:c_jtgt.Ok ZF:=
 AU agn (.int .i64::v_Ins []) jI AI func51<|fun i hi=>iW fun x hx hp U g=>by
 simp only[eB,AA,ZD]at g;simp only[agn,anN,PL,c_jtgt,eB,Ai,ZH,ZD,-eq_self,aC,aj,g];apply aI<;>intro c0;apply aI<;>intro c1
 .rw[si (by have:=Ah c1;simp;omega)];try rfl
 apply aI<;>intro c2
 .rw[si (by have:=Ah c2;simp;omega)];try rfl
 apply aI<;>intro c3
 .rw[sf (by have:=Ah c3;simp;omega)];try rfl
 apply aI<;>intro c4
 .rw[sf (by have:=Ah c4;simp;omega)];try rfl
 .rw[se (.inl (Bs c0)) (by have q1:=Ab c1;have q2:=Ab c2;simp;omega) (by have q1:=Ab c3;have q2:=Ab c4;simp;omega)];try rfl
 apply aI<;>intro c5;apply aI<;>intro c6
 .rw[si (by have:=Ah c6;simp;omega)];try rfl
 apply aI<;>intro c7
 .rw[si (by have:=Ah c7;simp;omega)];try rfl
 apply aI<;>intro c8
 .rw[sf (by have:=Ah c8;simp;omega)];try rfl
 apply aI<;>intro c9
 .rw[sf (by have:=Ah c9;simp;omega)];try rfl
 .rw[se (.inr (Bs c5)) (by have q1:=Ab c6;have q2:=Ab c7;simp;omega) (by have q1:=Ab c8;have q2:=Ab c9;simp;omega)];try rfl
 .rw[am5 c0 c5];try rfl
def c_jargs:Cd:=⟨94,[.one (.int .i64)],[.one (.int .i64)],rdZ fun n _=>[.z (fO n)],T0⟩
def aa6:Tr:=
(.br (.lt (.w 0) (.p 0))
(.u (.cons (.p 0) .nil))
(.br (.lt (.w 0) (.p 16))
(.u (.cons (.f .rem .i64 (.w 0) (.p 6)) .nil))
(.u (.cons (.p 0) .nil))))
def ahW:c_jargs.Ok ZF:=
 AU aa6 [.int .i64] jI AI func94<|fun n hn hp U g=>by
 simp only[AA,ZD]at g;simp only[aa6,c_jargs,Ai,ZH,ZD,-eq_self,aC,aj,g]
 .repeat' first|apply aI<;>intro c|exact YD
def amN(k:q2)(h:p->q=q2:=by intro e;(try simp only[e,aC,aj,-eq_self]);rfl):p->q:=fun e=>(h e).symm▸k
def aez:List (Nat×TI):=[(3,CZ),
 (4,EK),
 (22,vq),
 (24,vp),
 (38,fY),
 (66,qZ)]
def aeo:∀t i,(t,i)∈aez->TIok ZF t i:=bl (DS (z:=lX) ⟨ly,iq⟩ B1) B1 (by kernel_rfl)
def jS:List Dt->Prop
 |[.z x0,.l x1]=>let f (pr:Prog):Prop:=pr.l.length<=maxLen;f ⟨x0,x1⟩
 |_=>False
def c_jcheck:Cd:=⟨18,[.agg kProg],[.one (.int .i64),.one (.int .i64)],rd_Prog fun pr _=>[.z ((aY pr).1),.z ((aY pr).2)],jS⟩
def anL:Tr:=(.next 0 (.cons (.f .add .i64 (.w 2) (.p 1)) .nil))
def anM:E:=(.get (.g 1) (.f .sub .i64 (.len (.g 1)) (.p 1)) 0)
def pP:Tr:=
(.br (.lt (.w 0) (.p 0))
(.u (.cons (.p 0) (.cons (.p 2) .nil)))
(.br (.lt (.p 256) (.w 0))
(.u (.cons (.p 0) (.cons (.p 2) .nil)))
(.br (.lt (.len (.g 1)) (.p 1))
(.u (.cons (.p 0) (.cons (.p 3) .nil)))
(.br (.lt (.p 64) (.len (.g 1)))
(.u (.cons (.p 0) (.cons (.p 3) .nil)))
(.loop 0 2 [.int .i64] (.cons (.p 0) .nil)
(.br (.lt (.w 2) (.len (.g 1)))
(.br (.lt (.w 2) (.p 0))
.panic
(.call 0 [.bool] (.ins (.g 1) (.w 2) .nil) 3
(.br (.s 3)
(.call 1 [.int .i64,.bool] (.cons (.w 2) (.ins (.g 1) (.w 2) .nil)) 4
(.br (.s 5)
(.br (.lt (.w 4) (.p 0))
(.u (.cons (.w 2) (.cons (.p 32) .nil)))
(.br (.lt (.w 4) (.len (.g 1)))
 anL
(.u (.cons (.w 2) (.cons (.p 32) .nil)))))
 anL))
(.u (.cons (.w 2) (.cons (.p 31) .nil))))))
(.br (.lt (.f .sub .i64 (.len (.g 1)) (.p 1)) (.p 0))
.panic
(.br (.lt (.f .sub .i64 (.len (.g 1)) (.p 1)) (.len (.g 1)))
(.br (.eq anM (.p 4))
(.u (.cons (.p 0) (.cons (.p 0) .nil)))
(.br (.eq anM (.p 6))
(.u (.cons (.p 0) (.cons (.p 0) .nil)))
(.u (.cons (.f .sub .i64 (.len (.g 1)) (.p 1)) (.cons (.p 33) .nil)))))
.panic))))))))
def agC:cg aez (FV 0 [c_jmay,c_jtgt]) [] [(7,[.tmpI 5 .i64]++E3 [(2,2),(6,2),(25,34)])] [] 200 f18 c_jcheck.a c_jcheck.r (tp c_jcheck.r) (v_Prog []) pP:=E4 (by kernel_rfl)
def alf:c_jcheck.Ok ZF:=
 GD (hl:=.inr (.inl ⟨(fun xs (h:jS xs) L hL=>by unfold jS at h;split at h<;>first|exact h.elim|(simp at hL;subst hL;exact h)),rfl⟩)) pP (v_Prog []) aeo (Am atr<|Am am2 AI) func18 EZ agC<|gX fun pr hpr hp U g=>by
 simp only[c_jcheck,jS,dN,b2i_one,aC,aj]at hp;have Aq:=g;simp only[dN,eB,AA,ZD]at g;simp only[pP,anM,anL,c_jmay,c_jtgt,c_jcheck,dN,eB,Ai,ZH,ZD,-eq_self,aC,aj,g];have hp:=hpr.2.len;have Lz:=aqf hp;apply aI<;>intro c0
 .rw[nU (by have q:=Ah c0;simp;omega)];try rfl
 apply aI<;>intro c1
 .rw[nU (by have q:=Ah c1;simp;omega)];try rfl
 apply aI<;>intro c2
 .rw[nT Yb (by have q:=Ah c2;rw[Lz];simp;omega)];try rfl
 apply aI<;>intro c3
 .rw[nT Yb (by have q:=Ah c3;rw[Lz];simp;omega)];try rfl
 have hC:(decide (0<=pr.ctx)&&decide (pr.ctx<=256))=ZB:=Yb;have hL:(decide (0<=pr.last)&&decide (pr.last<=63))=ZB:=by have q1:=Ab c2;have q2:=Ab c3;rw[Lz];simp;omega
 refine⟨fun ds=>∃n:Nat,ds=[.z (n:Int)]/\n<=pr.l.length/\(Dr pr pr.l.length 0=Dr pr (pr.l.length-n) n),fun ds=>(pr.l.length-(dI ds 0).toNat),⟨0,rfl,Nat.zero_le _,rfl⟩,?_⟩;intro U1 A0 _ Bc;obtain⟨n,Br,r1,r2⟩:=Bc;simp only[Be,Dt.z.injEq,and_true]at Br;have g1:=(aZ A0 _ 0 ST).trans Aq;simp only[dN,eB,AA,ZD]at g1;simp only[g1,Br,aj,-eq_self];apply aI<;>intro c4;apply aI<;>intro c5
 .exact ai (Ah c5) Fn
 refine amN ?_;apply aI<;>intro c6;refine amN ?_;apply aI<;>intro c7;apply aI<;>intro c8
 .rw[iG hC hL r2 (YY.1 (Ah c4)) (pf c6 c7 (by have q:=Ah c8;rw[Lz];simp;omega))];try rfl
 apply aI<;>intro c9
 .exact⟨⟨n+1,by rw[GF (YY.1 (Ah c4)) hp],(YY.1 (Ah c4)),r2.trans (mq (YY.1 (Ah c4)) (pg c6 (.inr (by have q1:=Ab c8;have q2:=Ah c9;rw[Lz];simp;omega))))⟩,by rw[GF (YY.1 (Ah c4)) hp];show pr.l.length-(((n+1:Nat):Int)).toNat<pr.l.length-((n:Int)).toNat;have:=(YY.1 (Ah c4));omega⟩
 .rw[iG hC hL r2 (YY.1 (Ah c4)) (pf c6 c7 (by have q:=Ab c9;rw[Lz];simp;omega))];try rfl
 .exact⟨⟨n+1,by rw[GF (YY.1 (Ah c4)) hp],(YY.1 (Ah c4)),r2.trans (mq (YY.1 (Ah c4)) (pg c6 (.inl c7)))⟩,by rw[GF (YY.1 (Ah c4)) hp];show pr.l.length-(((n+1:Nat):Int)).toNat<pr.l.length-((n:Int)).toNat;have:=(YY.1 (Ah c4));omega⟩
 .rw[iG hC hL r2 (YY.1 (Ah c4)) (qU c6)];try rfl
 apply aI<;>intro BF
 .have q:=Ah BF;have w:Ac .sub .i64 (pr.l.length:Int) 1=_:=Lz;rw[w]at q;have q3:=Ab c2;omega
 apply aI<;>intro CF;apply aI<;>intro B9
 .rw[fS hC hL r2 (by have:=Ab c4;omega),ae (.inl (Bs B9))];try rfl
 apply aI<;>intro Cr
 .rw[fS hC hL r2 (by have:=Ab c4;omega),ae (.inr (Bs Cr))];try rfl
 .rw[fS hC hL r2 (by have:=Ab c4;omega),aa (fun h=>h.elim (Ch B9) (Ch Cr))];try rfl
 .have q:=Ab CF;have w:Ac .sub .i64 (pr.l.length:Int) 1=_:=Lz;rw[w]at q;have q3:=Ab c2;omega
def ac2(cc w1 a b:Int)(w:World)(h0:0<=a)(h1:a<=18446744073709551615)(h2:0<=b)(h3:b<=18446744073709551615)(h4:0<=cc)(h5:cc<=10)(hw:fG w1=ZB):
  Calls ZF 60 #[.int .i8 cc,.int .i8 w1,.int .u64 a,.int .u64 b] w fun e w'=>e=.returned (.tuple #[.bool (lW cc w1 a b),.int .i64 0])/\w=w':=by
 obtain⟨A0,Cf⟩:=dk a w1 h0 h1;obtain⟨Iv,DU⟩:=dk b w1 h2 h3;have za:wrap64 (eM (Ap a w1) w1)=zs a w1:=rfl;have zb:wrap64 (eM (Ap b w1) w1)=zs b w1:=rfl;rcases alM h4 h5 with rfl|rfl|rfl|rfl|rfl|rfl|rfl|rfl|rfl|rfl|rfl
 all_goals
  go_enter func60,ntmps60
  go_wp2_with (first
   |(go_at_call 95;refine(my _ _).mono ?_;rintro e w' ⟨rfl,rfl⟩)
   |(go_at_call 96;with_reducible refine(iS a _ _ Fn Fn).mono ?_;rintro e w' ⟨rfl,rfl⟩)
   |(go_at_call 96;with_reducible refine(iS b _ _ Fn Fn).mono ?_;rintro e w' ⟨rfl,rfl⟩)
   |(go_at_call 97;refine(wy _ _ _ Fn Fn).mono ?_;rintro e w' ⟨rfl,rfl⟩)
   |fail)
  go_ret2
  refine⟨?_,rfl⟩;simp[lW]
  done
def ac1(op w1 a b:Int)(w:World)(HL:(decide (op<0)||decide (10<op) ||!fG w1)=ZB):
  Calls ZF 60 #[.int .i8 op,.int .i8 w1,.int .u64 a,.int .u64 b] w fun e w'=>e=.returned (.tuple #[.bool ZC,.int .i64 2])/\w=w':=by
 have hc:op<0\/(0<=op/\10<op)\/(0<=op/\op<=10/\fG w1=ZC):=by
  by_cases h1:op<0
  .exact .inl h1
  .by_cases h2:10<op
   .exact Yl
   .exact XO
 clear HL;rcases hc with h|⟨h,h'⟩|⟨h,h',hw⟩
 all_goals
  go_enter func60,ntmps60
  go_wp2_with (go_at_call 95;refine(my _ _).mono ?_;rintro e w' ⟨rfl,rfl⟩)
  go_ret2
  exact⟨rfl,rfl⟩
def asF(k:q2)(h:p->q=q2:=by intro e;(try simp only[e,Kn.eta,Pi.eta,Pu.eta,Rg.eta,Sc.eta,Sc.eta_r,Sc.eta_k,Sc.eta_2,-eq_self]);rfl):p->q:=fun e=>(h e).symm▸k
def aoK:List (Nat×TI):=[(39,fe),
 (48,jr)]
def vj:∀t i,(t,i)∈aoK->TIok ZF t i:=bl B1 B1 (by kernel_rfl)
def c_rbits:Cd:=⟨54,[.one (.int .i8),.one (.int .i8),.one (.int .u64),.one (.int .u64)],[.one (.int .u64),.one (.int .i64)],rdZ fun op=>rdZ fun l=>rdZ fun x=>rdZ fun y _=>[.z (if Bv op l=ZB then BE op l x y else 0),.z (if Bv op l=ZB then 0 else 2)],T0⟩
def akq(op:Int)(Ad:Ae .i8 op=ZB)(l:Int)(hl:Ae .i8 l=ZB)(x:Int)(hx:Ae .u64 x=ZB)(y:Int)(hy:Ae .u64 y=ZB):(∀w,Calls ZF 54 #[.int .i8 op,.int .i8 l,.int .u64 x,.int .u64 y] w fun e w'=>e=.returned (.tuple #[.int .u64 (if Bv op l=ZB then BE op l x y else 0),.int .i64 (if Bv op l=ZB then 0 else 2)])/\Ext w w')/\fU (.tuple #[.int .u64 (if Bv op l=ZB then BE op l x y else 0),.int .i64 (if Bv op l=ZB then 0 else 2)])=ZB:=by
 have gx:=da hx;have gy:=da hy;cases hk:Bv op l
 .refine⟨fun w=>(apG op l x y w ?_).mono ?_,by simp[fU,fh,fq];decide⟩
  .unfold Bv at hk;rw[Bool.and_eq_false_iff,Bool.and_eq_false_iff]at hk;rcases hk with(hk|hk)|hk
   .have:=Ab hk;simp;omega
   .have:=Ab hk;simp;omega
   .rw[hk];simp
  .rintro e w' ⟨rfl,rfl⟩;exact⟨by simp,Ext.refl _⟩
 .unfold Bv at hk;simp only[ne,aE]at hk;have hz:=pz (eG op l x y gx.1 gx.2 gy.1 gy.2);refine⟨fun w=>(apH op l x y w gx.1 gx.2 gy.1 gy.2 hk.1.1 hk.1.2 hk.2).mono ?_,by simp[fU,fh,fq,hz];decide⟩;rintro e w' ⟨rfl,hx⟩
  first
  |exact⟨by simp,hx⟩
  |(subst hx;exact⟨by simp,Ext.refl _⟩)
def aqC:c_rbits.Ok ZF:=fun hF hP=>by
 refine SmOk.pure (s:=c_rbits.m _) hF rfl rfl fun xs vals w h=> ?_;obtain⟨_,_,_,rfl,⟨x0,rfl,rfl,C6⟩,h⟩:=h;obtain⟨_,_,_,rfl,⟨x1,rfl,rfl,Do⟩,h⟩:=h;obtain⟨_,_,_,rfl,⟨x2,rfl,rfl,Ge⟩,h⟩:=h;obtain⟨_,_,_,rfl,⟨x3,rfl,rfl,Gf⟩,h⟩:=h;obtain⟨rfl,rfl⟩:=h;have q:=akq x0 C6 x1 Do x2 Ge x3 Gf;refine⟨_,.inr ⟨dM func54 (by kernel_rfl) (by kernel_rfl) _ w,q.1 w⟩,?_,fun U v0 nid j he=> ?_⟩
 .have q2:=q.2;simp[fU,fh,fq]at q2;simp[c_rbits,Cd.m,tp,rdZ,rdB,rdL,ZQ,ZS,Sh.cks,ZP,YO,YP,b2i_one,gJ,q2]
 .simp only[c_rbits,Cd.m,tp,rdZ,rdB,rdL,ZQ,ZS,Sh.cks,ZP,YO,YP,b2i_one,eqs,dI,dB,cD,mj,bP,Nat.add_zero,ZD,and_true]at he;simp[c_rbits,Cd.m,tp,rdZ,rdB,rdL,ZQ,ZS,Sh.cks,ZP,YO,YP,b2i_one,gi,bM,aH,V.den,C.den,Af,BJ,cu,E.I,E.B,he]
def c_qmay:Cd:=⟨139,[.agg kKn],[.one .bool],rd_Kn fun a _=>[.z (AD (Bz a))],T0⟩
def af3:Tr:=
(.u (.j (.eq (.f .and .u64 (.w 0) (.w 1)) (.p 0)) .nil))
def amW:c_qmay.Ok ZF:=
 AU af3 (v_Kn []) vj AI func139<|cM fun a ha hp U g=>by
 simp only[AM,AA,ZD]at g;simp only[af3,c_qmay,AM,Ai,ZH,ZD,-eq_self,Kn.eta,Sc.eta_r,Sc.eta_k,Sc.eta_2,g]
 .rfl
def c_qhas:Cd:=⟨104,[.agg kKn,.one (.int .u64)],[.one .bool],rd_Kn fun a=>rdZ fun v _=>[.z (AD (AX a v))],T0⟩
def af4:Tr:=
(.call 0 [.bool] (.vs 0 2 .nil) 3
(.br (.s 3)
(.u (.j (.eq (.f .andNot .u64 (.w 2) (.w 1)) (.w 0)) .nil))
 zlF))
def atf:c_qhas.Ok ZF:=
 AU af4 (v_Kn [.int .u64]) vj (Am amW AI) func104<|cM fun a ha=>fun v hv hp U g=>by
 simp only[AM,AA,ZD]at g;simp only[af4,c_qmay,c_qhas,AM,Ai,ZH,ZD,-eq_self,Kn.eta,Pi.eta,Pu.eta,Rg.eta,Sc.eta,Sc.eta_r,Sc.eta_k,Sc.eta_2,g];refine asF ?_;apply aI<;>intro c0
 .exact Yo
 .exact Yo
def Out.eta(a:Out):(⟨a.kind,a.r0,a.ctx,a.tr,a.left⟩:Out)=a:=rfl
def rd_Out(k:Out->List Dt->List Dt):List Dt->List Dt
 |.z z0::.z z1::.l z2::.l z3::.z z4::r=>k ⟨z0,z1,z2,z3,z4⟩ r
 |_=>[]
def Out.ok(a:Out):Prop:=Ae .i8 a.kind=ZB/\Ae .u64 a.r0=ZB/\RowsIn [ZA .u8] a.ctx/\RowsIn (kN 8 11111212) a.tr/\Ae .i64 a.left=ZB
def kOut:List CK:=[.int .i8,.int .u64,.sl [ZA .u8] 5,.sl (kN 8 11111212) 178,.int .i64]
def v_Out(t:List VK):List VK:=.int .i8::.int .u64::.list [ZA .u8]::.list (kN 8 11111212)::.int .i64::t
def d_Out(a:Out)(t:List Dt):List Dt:=.z a.kind::.z a.r0::.l a.ctx::.l a.tr::.z a.left::t
def apJ:=aI @v_Out.eq_1 (aI @d_Out.eq_1 (aI @rd_Out.eq_1 (@kOut.eq_1)))
structure JMem where
 l0:LL
 l1:LL
 l2:LL
 l3:LL
def JMem.eta(a:JMem):(⟨a.l0,a.l1,a.l2,a.l3⟩:JMem)=a:=rfl
def rd_JMem(k:JMem->List Dt->List Dt):List Dt->List Dt
 |.l z0::.l z1::.l z2::.l z3::r=>k ⟨z0,z1,z2,z3⟩ r
 |_=>[]
def JMem.ok(a:JMem):Prop:=RowsIn [ZA .u8] a.l0/\RowsIn [ZA .u8] a.l1/\RowsIn [ZA .u8] a.l2/\RowsIn [ZA .u8] a.l3
def kJMem:List CK:=[.sl [ZA .u8] 5,.sl [ZA .u8] 5,.sl [ZA .u8] 5,.sl [ZA .u8] 5]
def v_JMem(t:List VK):List VK:=.list [ZA .u8]::.list [ZA .u8]::.list [ZA .u8]::.list [ZA .u8]::t
def d_JMem(a:JMem)(t:List Dt):List Dt:=.l a.l0::.l a.l1::.l a.l2::.l a.l3::t
def uD{l:List VK}{p:List Dt->Prop}(h:∀a:JMem,JMem.ok a->aS l fun r=>p (d_JMem a r)):aS (v_JMem l) p:=fun x0 C6 x1 Do x2 Ge x3 Gf=>h ⟨x0,x1,x2,x3⟩ ⟨C6,Do,Ge,Gf⟩
def jZ:=aI @v_JMem.eq_1 (aI @d_JMem.eq_1 (aI @rd_JMem.eq_1 (@kJMem.eq_1)))
structure JMd where
 r0:Int
 r1:Int
 r2:Int
 r3:Int
 r4:Int
 r5:Int
 r6:Int
 r7:Int
 r8:Int
 r9:Int
 r10:Int
def JMd.eta(a:JMd):(⟨a.r0,a.r1,a.r2,a.r3,a.r4,a.r5,a.r6,a.r7,a.r8,a.r9,a.r10⟩:JMd)=a:=rfl
def rd_JMd(k:JMd->List Dt->List Dt):List Dt->List Dt
 |.z z0::.z z1::.z z2::.z z3::.z z4::.z z5::.z z6::.z z7::.z z8::.z z9::.z MF::r=>k ⟨z0,z1,z2,z3,z4,z5,z6,z7,z8,z9,MF⟩ r
 |_=>[]
def JMd.ok(a:JMd):Prop:=Ae .u64 a.r0=ZB/\Ae .u64 a.r1=ZB/\Ae .u64 a.r2=ZB/\Ae .u64 a.r3=ZB/\Ae .u64 a.r4=ZB/\Ae .u64 a.r5=ZB/\Ae .u64 a.r6=ZB/\Ae .u64 a.r7=ZB/\Ae .u64 a.r8=ZB/\Ae .u64 a.r9=ZB/\Ae .u64 a.r10=ZB
def kJMd:List CK:=[.any,.any,.any,.int .u64,.int .u64,.int .u64,.int .u64,.int .u64,.int .u64,.int .u64,.int .u64,.int .u64,.int .u64,.int .u64,.any,.any,.any,.any,.any,.any,.any,.any,.any,.any,.any,.any,.any,.any,.any,.any,.any,.any,.any,.any,.any,.any,.any,.any,.any,.any,.any,.any,.any,.any,.any,.any,.any,.any,.any,.any,.any,.any,.any,.any,.any,.any,.any,.any,.any,.any,.any,.any,.any,.any,.any,.any,.any,.any,.any,.any,.any,.any,.any,.any,.any,.any,.any,.any,.any,.any,.any,.any]
def v_JMd(t:List VK):List VK:=.int .u64::.int .u64::.int .u64::.int .u64::.int .u64::.int .u64::.int .u64::.int .u64::.int .u64::.int .u64::.int .u64::t
def d_JMd(a:JMd)(t:List Dt):List Dt:=.z a.r0::.z a.r1::.z a.r2::.z a.r3::.z a.r4::.z a.r5::.z a.r6::.z a.r7::.z a.r8::.z a.r9::.z a.r10::t
def aq2{l:List VK}{p:List Dt->Prop}(h:∀a:JMd,JMd.ok a->aS l fun r=>p (d_JMd a r)):aS (v_JMd l) p:=fun x0 C6 x1 Do x2 Ge x3 Gf x4 LW x5 KL x6 LX x7 LY x8 LZ x9 QY J7 KK=>h ⟨x0,x1,x2,x3,x4,x5,x6,x7,x8,x9,J7⟩ ⟨C6,Do,Ge,Gf,LW,KL,LX,LY,LZ,QY,KK⟩
def QA:=aI @v_JMd.eq_1 (aI @d_JMd.eq_1 (aI @rd_JMd.eq_1 (@kJMd.eq_1)))
structure F64 where
 f0:Int
 f1:Int
 f2:Int
 f3:Int
 f4:Int
 f5:Int
 f6:Int
 f7:Int
 f8:Int
 f9:Int
 f10:Int
 f11:Int
 f12:Int
 f13:Int
 f14:Int
 f15:Int
 f16:Int
 f17:Int
 f18:Int
 f19:Int
 f20:Int
 f21:Int
 f22:Int
 f23:Int
 f24:Int
 f25:Int
 f26:Int
 f27:Int
 f28:Int
 f29:Int
 f30:Int
 f31:Int
 f32:Int
 f33:Int
 f34:Int
 f35:Int
 f36:Int
 f37:Int
 f38:Int
 f39:Int
 f40:Int
 f41:Int
 f42:Int
 f43:Int
 f44:Int
 f45:Int
 f46:Int
 f47:Int
 f48:Int
 f49:Int
 f50:Int
 f51:Int
 f52:Int
 f53:Int
 f54:Int
 f55:Int
 f56:Int
 f57:Int
 f58:Int
 f59:Int
 f60:Int
 f61:Int
 f62:Int
 f63:Int
def F64.eta(a:F64):(⟨a.f0,a.f1,a.f2,a.f3,a.f4,a.f5,a.f6,a.f7,a.f8,a.f9,a.f10,a.f11,a.f12,a.f13,a.f14,a.f15,a.f16,a.f17,a.f18,a.f19,a.f20,a.f21,a.f22,a.f23,a.f24,a.f25,a.f26,a.f27,a.f28,a.f29,a.f30,a.f31,a.f32,a.f33,a.f34,a.f35,a.f36,a.f37,a.f38,a.f39,a.f40,a.f41,a.f42,a.f43,a.f44,a.f45,a.f46,a.f47,a.f48,a.f49,a.f50,a.f51,a.f52,a.f53,a.f54,a.f55,a.f56,a.f57,a.f58,a.f59,a.f60,a.f61,a.f62,a.f63⟩:F64)=a:=rfl
def rd_F64(k:F64->List Dt->List Dt):List Dt->List Dt:=DH fun z0 z1 z2 z3 z4 z5 z6 z7=>DH fun z8 z9 MF SE SF SG SI SJ=>DH fun SK SL SM SN SO SP z22 SQ=>DH fun SR z25 SS SU SW SX SY SZ=>DH fun S0 S2 S3 S4 S5 S6 S7 S8=>DH fun S9 Ta Tb Tc Td Te Tf Tg=>DH fun Th Ti Tj Tk Tl Tm z54 Tn=>DH fun To Tp Tq Ts Tt Tu Tv Tw=>fun r=>k ⟨z0,z1,z2,z3,z4,z5,z6,z7,z8,z9,MF,SE,SF,SG,SI,SJ,SK,SL,SM,SN,SO,SP,z22,SQ,SR,z25,SS,SU,SW,SX,SY,SZ,S0,S2,S3,S4,S5,S6,S7,S8,S9,Ta,Tb,Tc,Td,Te,Tf,Tg,Th,Ti,Tj,Tk,Tl,Tm,z54,Tn,To,Tp,Tq,Ts,Tt,Tu,Tv,Tw⟩ r
def F64.ok(a:F64):Prop:=Ae .u8 a.f0=ZB/\Ae .u8 a.f1=ZB/\Ae .u8 a.f2=ZB/\Ae .u8 a.f3=ZB/\Ae .u8 a.f4=ZB/\Ae .u8 a.f5=ZB/\Ae .u8 a.f6=ZB/\Ae .u8 a.f7=ZB/\Ae .u8 a.f8=ZB/\Ae .u8 a.f9=ZB/\Ae .u8 a.f10=ZB/\Ae .u8 a.f11=ZB/\Ae .u8 a.f12=ZB/\Ae .u8 a.f13=ZB/\Ae .u8 a.f14=ZB/\Ae .u8 a.f15=ZB/\Ae .u8 a.f16=ZB/\Ae .u8 a.f17=ZB/\Ae .u8 a.f18=ZB/\Ae .u8 a.f19=ZB/\Ae .u8 a.f20=ZB/\Ae .u8 a.f21=ZB/\Ae .u8 a.f22=ZB/\Ae .u8 a.f23=ZB/\Ae .u8 a.f24=ZB/\Ae .u8 a.f25=ZB/\Ae .u8 a.f26=ZB/\Ae .u8 a.f27=ZB/\Ae .u8 a.f28=ZB/\Ae .u8 a.f29=ZB/\Ae .u8 a.f30=ZB/\Ae .u8 a.f31=ZB/\Ae .u8 a.f32=ZB/\Ae .u8 a.f33=ZB/\Ae .u8 a.f34=ZB/\Ae .u8 a.f35=ZB/\Ae .u8 a.f36=ZB/\Ae .u8 a.f37=ZB/\Ae .u8 a.f38=ZB/\Ae .u8 a.f39=ZB/\Ae .u8 a.f40=ZB/\Ae .u8 a.f41=ZB/\Ae .u8 a.f42=ZB/\Ae .u8 a.f43=ZB/\Ae .u8 a.f44=ZB/\Ae .u8 a.f45=ZB/\Ae .u8 a.f46=ZB/\Ae .u8 a.f47=ZB/\Ae .u8 a.f48=ZB/\Ae .u8 a.f49=ZB/\Ae .u8 a.f50=ZB/\Ae .u8 a.f51=ZB/\Ae .u8 a.f52=ZB/\Ae .u8 a.f53=ZB/\Ae .u8 a.f54=ZB/\Ae .u8 a.f55=ZB/\Ae .u8 a.f56=ZB/\Ae .u8 a.f57=ZB/\Ae .u8 a.f58=ZB/\Ae .u8 a.f59=ZB/\Ae .u8 a.f60=ZB/\Ae .u8 a.f61=ZB/\Ae .u8 a.f62=ZB/\Ae .u8 a.f63=ZB
def kF64:List CK:=[.int .u8,.int .u8,.int .u8,.int .u8,.int .u8,.int .u8,.int .u8,.int .u8,.int .u8,.int .u8,.int .u8,.int .u8,.int .u8,.int .u8,.int .u8,.int .u8,.int .u8,.int .u8,.int .u8,.int .u8,.int .u8,.int .u8,.int .u8,.int .u8,.int .u8,.int .u8,.int .u8,.int .u8,.int .u8,.int .u8,.int .u8,.int .u8,.int .u8,.int .u8,.int .u8,.int .u8,.int .u8,.int .u8,.int .u8,.int .u8,.int .u8,.int .u8,.int .u8,.int .u8,.int .u8,.int .u8,.int .u8,.int .u8,.int .u8,.int .u8,.int .u8,.int .u8,.int .u8,.int .u8,.int .u8,.int .u8,.int .u8,.int .u8,.int .u8,.int .u8,.int .u8,.int .u8,.int .u8,.int .u8]
def v_F64(t:List VK):List VK:=.int .u8::.int .u8::.int .u8::.int .u8::.int .u8::.int .u8::.int .u8::.int .u8::.int .u8::.int .u8::.int .u8::.int .u8::.int .u8::.int .u8::.int .u8::.int .u8::.int .u8::.int .u8::.int .u8::.int .u8::.int .u8::.int .u8::.int .u8::.int .u8::.int .u8::.int .u8::.int .u8::.int .u8::.int .u8::.int .u8::.int .u8::.int .u8::.int .u8::.int .u8::.int .u8::.int .u8::.int .u8::.int .u8::.int .u8::.int .u8::.int .u8::.int .u8::.int .u8::.int .u8::.int .u8::.int .u8::.int .u8::.int .u8::.int .u8::.int .u8::.int .u8::.int .u8::.int .u8::.int .u8::.int .u8::.int .u8::.int .u8::.int .u8::.int .u8::.int .u8::.int .u8::.int .u8::.int .u8::.int .u8::t
def d_F64(a:F64)(t:List Dt):List Dt:=.z a.f0::.z a.f1::.z a.f2::.z a.f3::.z a.f4::.z a.f5::.z a.f6::.z a.f7::.z a.f8::.z a.f9::.z a.f10::.z a.f11::.z a.f12::.z a.f13::.z a.f14::.z a.f15::.z a.f16::.z a.f17::.z a.f18::.z a.f19::.z a.f20::.z a.f21::.z a.f22::.z a.f23::.z a.f24::.z a.f25::.z a.f26::.z a.f27::.z a.f28::.z a.f29::.z a.f30::.z a.f31::.z a.f32::.z a.f33::.z a.f34::.z a.f35::.z a.f36::.z a.f37::.z a.f38::.z a.f39::.z a.f40::.z a.f41::.z a.f42::.z a.f43::.z a.f44::.z a.f45::.z a.f46::.z a.f47::.z a.f48::.z a.f49::.z a.f50::.z a.f51::.z a.f52::.z a.f53::.z a.f54::.z a.f55::.z a.f56::.z a.f57::.z a.f58::.z a.f59::.z a.f60::.z a.f61::.z a.f62::.z a.f63::t
def QB:=aI @v_F64.eq_1 (aI @d_F64.eq_1 (aI @rd_F64.eq_1 (@kF64.eq_1)))
def EF(m:JMd)(x:Ins):Int:=if x.br=ZB then[m.r0,m.r1,m.r2,m.r3,m.r4,m.r5,m.r6,m.r7,m.r8,m.r9,m.r10].getD x.s.toNat 0 else IntKind.u64.wrap x.imm
def f64(l:LL):F64:=⟨gt l 0 0,gt l 1 0,gt l 2 0,gt l 3 0,gt l 4 0,gt l 5 0,gt l 6 0,gt l 7 0,gt l 8 0,gt l 9 0,gt l 10 0,gt l 11 0,gt l 12 0,gt l 13 0,gt l 14 0,gt l 15 0,gt l 16 0,gt l 17 0,gt l 18 0,gt l 19 0,gt l 20 0,gt l 21 0,gt l 22 0,gt l 23 0,gt l 24 0,gt l 25 0,gt l 26 0,gt l 27 0,gt l 28 0,gt l 29 0,gt l 30 0,gt l 31 0,gt l 32 0,gt l 33 0,gt l 34 0,gt l 35 0,gt l 36 0,gt l 37 0,gt l 38 0,gt l 39 0,gt l 40 0,gt l 41 0,gt l 42 0,gt l 43 0,gt l 44 0,gt l 45 0,gt l 46 0,gt l 47 0,gt l 48 0,gt l 49 0,gt l 50 0,gt l 51 0,gt l 52 0,gt l 53 0,gt l 54 0,gt l 55 0,gt l 56 0,gt l 57 0,gt l 58 0,gt l 59 0,gt l 60 0,gt l 61 0,gt l 62 0,gt l 63 0⟩
def Xg(k:q2)(h:p->q=q2:=by intro e;(try simp only[e,aC,aj,-eq_self]);rfl):p->q:=fun e=>(h e).symm▸k
def tk:List (Nat×TI):=[(2,CC),
 (3,CZ),
 (4,EK),
 (5,Lk),
 (22,vq),
 (24,vp),
 (25,aoU),
 (26,aoT),
 (38,fY),
 (39,fe),
 (40,aoS),
 (60,Qs),
 (61,Qr),
 (63,Qq),
 (66,qZ),
 (87,arT),
 (89,arS),
 (138,amf),
 (178,WS)]
def fc:∀t i,(t,i)∈tk->TIok ZF t i:=bl (DS (z:=lX) ⟨ly,iq⟩ B1) B1 (by kernel_rfl)
def c_rhol:Cd:=⟨60,[.one (.int .i8),.one (.int .i8),.one (.int .u64),.one (.int .u64)],[.one .bool,.one (.int .i64)],rdZ fun cc=>rdZ fun l=>rdZ fun x=>rdZ fun y _=>[.z (AD ((DW cc l&&lW cc l x y))),.z (if DW cc l=ZB then 0 else 2)],T0⟩
def aph(cc:Int)(Cu:Ae .i8 cc=ZB)(l:Int)(hl:Ae .i8 l=ZB)(x:Int)(hx:Ae .u64 x=ZB)(y:Int)(hy:Ae .u64 y=ZB):(∀w,Calls ZF 60 #[.int .i8 cc,.int .i8 l,.int .u64 x,.int .u64 y] w fun e w'=>e=.returned (.tuple #[.bool ((DW cc l&&lW cc l x y)),.int .i64 (if DW cc l=ZB then 0 else 2)])/\Ext w w')/\fU (.tuple #[.bool ((DW cc l&&lW cc l x y)),.int .i64 (if DW cc l=ZB then 0 else 2)])=ZB:=by
 have gx:=da hx;have gy:=da hy;cases hk:DW cc l
 .refine⟨fun w=>(ac1 cc l x y w ?_).mono ?_,by simp[fU,fh,fq];decide⟩
  .unfold DW at hk;rw[Bool.and_eq_false_iff,Bool.and_eq_false_iff]at hk;rcases hk with(hk|hk)|hk
   .have:=Ab hk;simp;omega
   .have:=Ab hk;simp;omega
   .rw[hk];simp
  .rintro e w' ⟨rfl,rfl⟩;exact⟨by simp,Ext.refl _⟩
 .unfold DW at hk;simp only[ne,aE]at hk;refine⟨fun w=>(ac2 cc l x y w gx.1 gx.2 gy.1 gy.2 hk.1.1 hk.1.2 hk.2).mono ?_,by simp[fU,fh,fq];decide⟩;rintro e w' ⟨rfl,rfl⟩;exact⟨by simp,Ext.refl _⟩
def atd:c_rhol.Ok ZF:=fun hF hP=>by
 refine SmOk.pure (s:=c_rhol.m _) hF rfl rfl fun xs vals w h=> ?_;obtain⟨_,_,_,rfl,⟨x0,rfl,rfl,C6⟩,h⟩:=h;obtain⟨_,_,_,rfl,⟨x1,rfl,rfl,Do⟩,h⟩:=h;obtain⟨_,_,_,rfl,⟨x2,rfl,rfl,Ge⟩,h⟩:=h;obtain⟨_,_,_,rfl,⟨x3,rfl,rfl,Gf⟩,h⟩:=h;obtain⟨rfl,rfl⟩:=h;have q:=aph x0 C6 x1 Do x2 Ge x3 Gf;refine⟨_,.inr ⟨dM func60 (by kernel_rfl) (by kernel_rfl) _ w,q.1 w⟩,?_,fun U v0 nid j he=> ?_⟩
 .have q2:=q.2;simp[fU,fh,fq]at q2;simp[c_rhol,Cd.m,tp,rdZ,rdB,rdL,ZQ,ZS,Sh.cks,ZP,YO,YP,b2i_one,gJ,q2]
 .simp only[c_rhol,Cd.m,tp,rdZ,rdB,rdL,ZQ,ZS,Sh.cks,ZP,YO,YP,b2i_one,eqs,dI,dB,cD,mj,bP,Nat.add_zero,ZD,and_true]at he;simp[c_rhol,Cd.m,tp,rdZ,rdB,rdL,ZQ,ZS,Sh.cks,ZP,YO,YP,b2i_one,gi,bM,aH,V.den,C.den,Af,BJ,cu,E.I,E.B,he]
def c_jsd:Cd:=⟨98,[.one (.int .i64)],[.one .bool],rdZ fun n _=>[.z (AD (aR n))],T0⟩
def amz:Tr:=
(.br (.eq (.w 0) (.p 1))
 zlT
(.br (.eq (.w 0) (.p 2))
 zlT
(.br (.eq (.w 0) (.p 4))
 zlT
(.u (.j (.eq (.w 0) (.p 8)) .nil)))))
def atp:c_jsd.Ok ZF:=
 AU amz [.int .i64] fc AI func98<|fun n hn hp U g=>by
 simp only[AA,ZD]at g;simp only[amz,c_jsd,Ai,ZH,ZD,-eq_self,aC,aj,g]
 .repeat' first|apply aI<;>intro c|exact Xt
def kH:List Dt->Prop
 |[.z x0,.z x1,.z x2,.l x3]=>let f (at_:Int) (n:Int) (base:Int) (b:LL):Prop:=(1<=n/\n<=8)/\b.length<=1048576;f x0 x1 x2 x3
 |_=>False
def c_jwith:Cd:=⟨135,[.one (.int .u64),.one (.int .i64),.one (.int .u64),.one (.sl [ZA .u8] 5)],[.one (.int .i64),.one .bool],rdZ fun at_=>rdZ fun n=>rdZ fun base=>rdL fun b _=>[.z (MC base b at_),.z (AD (inr base b at_ n))],kH⟩
def aa4:Tr:=
(.br (.lt (.w 0) (.w 2))
(.u (.cons (.p 0) (.j (.tt ZC) .nil)))
(.br (.lt (.f .sub .u64 (.w 0) (.w 2)) (.F .u64 (.len (.g 3))))
(.u (.cons (.F .i64 (.f .sub .u64 (.w 0) (.w 2))) (.j (.not (.lt (.f .sub .i64 (.len (.g 3)) (.F .i64 (.f .sub .u64 (.w 0) (.w 2)))) (.w 1))) .nil)))
(.u (.cons (.p 0) (.j (.tt ZC) .nil)))))
def ahT:c_jwith.Ok ZF:=
 AU (hl:=.inr (.inl ⟨(fun xs (h:kH xs) L hL=>by unfold kH at h;split at h<;>first|exact h.elim|(simp at hL;rcases hL with rfl;exact dd h.2 ST)),rfl⟩)) aa4 [.int .u64,.int .i64,.int .u64,.list [ZA .u8]] fc AI func135<|fun at_ Iu n hn base Ct b hb hp U g=>by
 simp only[c_jwith,kH,b2i_one,aC,aj]at hp;simp only[AA,ZD]at g;simp only[aa4,c_jwith,Ai,ZH,ZD,-eq_self,aC,aj,g];have Jd:=(xj Ct).1;apply aI<;>intro c0
 .obtain⟨q1,q2⟩:=auF (l:=b) (n:=n) c0;rw[<-q1,<-q2]
 apply aI<;>intro c1
 .obtain⟨q1,q2⟩:=auG (l:=b) (n:=n) Iu Jd hp.2 hp.1.1 hp.1.2 c0 c1;rw[q2,q1]
 .obtain⟨q1,q2⟩:=arI (l:=b) (n:=n) Iu Jd hp.2 hp.1.1 c0 c1;rw[<-q1,<-q2]
def jQ:List Dt->Prop
 |[.l x0,.l x1,.l x2,.l x3,.z x4,.z x5]=>let f (m:JMem) (at_:Int) (n:Int):Prop:=m.l0=[]/\m.l1.length<=256/\m.l2.length=64/\m.l3=[];f ⟨x0,x1,x2,x3⟩ x4 x5
 |_=>False
def c_jmread:Cd:=⟨57,[.ptr kJMem,.one (.int .u64),.one (.int .i64)],[.one (.int .u64),.one (.int .i64)],rd_JMem fun m=>rdZ fun at_=>rdZ fun n _=>[.z (FQ (Gn m.l0 m.l1 m.l2 m.l3) at_ n),.z (H3 (Gn m.l0 m.l1 m.l2 m.l3) at_ n)],jQ⟩
def Qm:E:=(.cons (.p 0) (.cons (.f .sub .i64 (.w 5) (.p 1)) .nil))
def pN:Tr:=
(.call 0 [.bool] (.cons (.w 5) .nil) 6
(.br (.s 6)
(.call 1 [.int .i64,.bool] (.vs 4 2 (.cons (.p 1048576) (.N (.g 0) .nil))) 7
(.br (.s 8)
(.loop 0 9 [.int .u64,.int .i64] Qm
(.br (.lt (.w 10) (.p 0))
(.u (.cons (.w 9) (.cons (.p 0) .nil)))
(.br (.lt (.f .add .i64 (.w 7) (.w 10)) (.p 0))
.panic
(.br (.lt (.f .add .i64 (.w 7) (.w 10)) (.len (.g 0)))
(.next 0 (.cons (.f .or .u64 (.f .shl .u64 (.w 9) (.p 8)) (.F .u64 (.get (.g 0) (.f .add .i64 (.w 7) (.w 10)) 0))) (.cons (.f .sub .i64 (.w 10) (.p 1)) .nil)))
.panic))))
(.call 1 [.int .i64,.bool] (.vs 4 2 (.cons (.p 2097152) (.N (.g 1) .nil))) 9
(.br (.s 10)
(.loop 0 11 [.int .u64,.int .i64] Qm
(.br (.lt (.w 12) (.p 0))
(.u (.cons (.w 11) (.cons (.p 0) .nil)))
(.br (.lt (.f .add .i64 (.w 9) (.w 12)) (.p 0))
.panic
(.br (.lt (.f .add .i64 (.w 9) (.w 12)) (.len (.g 1)))
(.next 0 (.cons (.f .or .u64 (.f .shl .u64 (.w 11) (.p 8)) (.F .u64 (.get (.g 1) (.f .add .i64 (.w 9) (.w 12)) 0))) (.cons (.f .sub .i64 (.w 12) (.p 1)) .nil)))
.panic))))
(.call 1 [.int .i64,.bool] (.vs 4 2 (.cons (.p 3145728) (.N (.g 2) .nil))) 11
(.br (.s 12)
(.loop 0 13 [.int .u64,.int .i64] Qm
(.br (.lt (.w 14) (.p 0))
(.u (.cons (.w 13) (.cons (.p 0) .nil)))
(.br (.lt (.f .add .i64 (.w 11) (.w 14)) (.p 0))
.panic
(.br (.lt (.f .add .i64 (.w 11) (.w 14)) (.len (.g 2)))
(.next 0 (.cons (.f .or .u64 (.f .shl .u64 (.w 13) (.p 8)) (.F .u64 (.get (.g 2) (.f .add .i64 (.w 11) (.w 14)) 0))) (.cons (.f .sub .i64 (.w 14) (.p 1)) .nil)))
.panic))))
(.call 1 [.int .i64,.bool] (.vs 4 2 (.cons (.p 4194304) (.N (.g 3) .nil))) 13
(.br (.s 14)
(.loop 0 15 [.int .u64,.int .i64] Qm
(.br (.lt (.w 16) (.p 0))
(.u (.cons (.w 15) (.cons (.p 0) .nil)))
(.br (.lt (.f .add .i64 (.w 13) (.w 16)) (.p 0))
.panic
(.br (.lt (.f .add .i64 (.w 13) (.w 16)) (.len (.g 3)))
(.next 0 (.cons (.f .or .u64 (.f .shl .u64 (.w 15) (.p 8)) (.F .u64 (.get (.g 3) (.f .add .i64 (.w 13) (.w 16)) 0))) (.cons (.f .sub .i64 (.w 16) (.p 1)) .nil)))
.panic))))
(.u (.cons (.p 0) (.cons (.p 20) .nil)))))))))))
(.u (.cons (.p 0) (.cons (.p 2) .nil)))))
def agA:cg tk (FV 0 [c_jsd,c_jwith]) [(99,f99,[],[])] [(10,[.tmpI 11 .u64,.tmpI 12 .i64]++E3 [(30,14)]),(999998,[])] [] 200 f57 c_jmread.a c_jmread.r (tp c_jmread.r) (v_JMem [.int .u64,.int .i64]) pN:=E4 (by kernel_rfl)
def ald:c_jmread.Ok ZF:=
 GD (hl:=.inr (.inl ⟨(fun xs (h:jQ xs) L hL=>by unfold jQ at h;split at h<;>first|exact h.elim|(simp at hL;rcases hL with rfl|rfl|rfl|rfl;exact dd (Nat.le_of_eq (congrArg List.length h.1)) ST;exact dd h.2.1 ST;exact dd (Nat.le_of_eq h.2.2.1) ST;exact dd (Nat.le_of_eq (congrArg List.length h.2.2.2)) ST)),rfl⟩)) pN (v_JMem [.int .u64,.int .i64]) fc (Am atp<|Am ahT AI) func57 (Gw func99 EZ) agA<|uD fun m hm=>fun at_ Iu n hn hp U g=>by
 simp only[c_jmread,jQ,jZ,b2i_one,aC,aj]at hp;have Aq:=g;simp only[jZ,AA,ZD]at g;simp only[pN,Qm,c_jsd,c_jwith,c_jmread,kH,jZ,Ai,ZH,ZD,-eq_self,aC,aj,g];obtain⟨RY,La,M3,M4,RV,k0_i5⟩:=g;obtain⟨r0,r1,r2,r3⟩:=hm;have OE:m.l0.length<=1048576:=by rw[hp.1];decide
 have FZ:m.l1.length<=1048576:=dd hp.2.1 ST;have HO:m.l2.length<=1048576:=by rw[hp.2.2.1];decide
 have MR:m.l3.length<=1048576:=by rw[hp.2.2.2];decide
 refine Xg ?_;apply aI<;>intro c0;refine⟨?_,?_⟩
 .exact⟨by have:=bR c0;omega,OE⟩
 intro e;have RW:=e.1;(try simp only[e,aC,aj,-eq_self]);clear e;apply aI<;>intro c1;have hs:aR n=ZB:=c0;have LA:=bR hs;have f0:inr 1048576 m.l0 at_ n=ZB:=c1;have W:=Win.of f0 Iu ST OE Fn Fn;refine⟨fun ds=>∃k:Nat,ds=[.z (CM ((BS 1048576 m.l0 at_ n).drop k)),.z ((k:Int)-1)]/\k<=n.toNat,fun ds=>(dI ds 1+1).toNat,⟨n.toNat,by rw[J5 Fn Fn,List.drop_eq_nil_of_le Yd,show((n.toNat:Nat):Int)-1=n-1 by omega];rfl,ZK _⟩,?_⟩;intro U1 A0 _ Bc;obtain⟨k,Br,hk⟩:=Bc;simp only[Be,LV,and_true]at Br;obtain⟨Eo,D5⟩:=Br;have R2:=kL A0 RY;have R0:U1.i 7=at_-1048576:=(kI A0 RW).trans (rA f0 Fn);simp only[Eo,D5,R2,R0,-eq_self];apply aI<;>intro c2
 .have hs:aR n=ZB:=c0;have LA:=bR hs;have f0:inr 1048576 m.l0 at_ n=ZB:=c1;obtain rfl:k=0:=by have:=Ah c2;omega
  simp[FQ,H3,Mem.reg,Gn,hs,f0]
 apply aI<;>intro c3
 .have w1:=W.lo;have w2:=W.hi;have w3:=W.len;obtain⟨j,rfl⟩:∃j,k=j+1:=⟨k-1,by have:=Ab c2;omega⟩
  rw[show(((j+1:Nat):Int)-1)=(j:Int) by omega,(W.byte OE Fn).1]at c3;exact ai (Ah c3) Fn
 apply aI<;>intro c4
 .obtain⟨j,rfl⟩:∃j,k=j+1:=⟨k-1,by have:=Ab c2;omega⟩
  exact W.next OE r0 hk
 .have w1:=W.lo;have w2:=W.hi;have w3:=W.len;obtain⟨j,rfl⟩:∃j,k=j+1:=⟨k-1,by have:=Ab c2;omega⟩
  rw[show(((j+1:Nat):Int)-1)=(j:Int) by omega,(W.byte OE Fn).1]at c4;exact ai (Ab c4) Fn
 refine⟨?_,?_⟩
 .exact⟨by have:=bR c0;omega,FZ⟩
 intro e;have RX:=e.1;(try simp only[e,aC,aj,-eq_self]);clear e;apply aI<;>intro c5;have hs:aR n=ZB:=c0;have LA:=bR hs;have f0:inr 1048576 m.l0 at_ n=ZC:=c1;have f1:inr 2097152 m.l1 at_ n=ZB:=c5;have W:=Win.of f1 Iu ST FZ Fn Fn;refine⟨fun ds=>∃k:Nat,ds=[.z (CM ((BS 2097152 m.l1 at_ n).drop k)),.z ((k:Int)-1)]/\k<=n.toNat,fun ds=>(dI ds 1+1).toNat,⟨n.toNat,by rw[J5 Fn Fn,List.drop_eq_nil_of_le Yd,show((n.toNat:Nat):Int)-1=n-1 by omega];rfl,ZK _⟩,?_⟩;intro U1 A0 _ Bc;obtain⟨k,Br,hk⟩:=Bc;simp only[Be,LV,and_true]at Br;obtain⟨D6,Fc⟩:=Br;have Jj:=kL A0 La;have Eo:U1.i 9=at_-2097152:=(kI A0 RX).trans (rA f1 Fn);simp only[D6,Fc,Jj,Eo,-eq_self];apply aI<;>intro c6
 .have hs:aR n=ZB:=c0;have LA:=bR hs;have f0:inr 1048576 m.l0 at_ n=ZC:=c1;have f1:inr 2097152 m.l1 at_ n=ZB:=c5;obtain rfl:k=0:=by have:=Ah c6;omega
  simp[FQ,H3,Mem.reg,Gn,hs,f0,f1]
 apply aI<;>intro c7
 .have w1:=W.lo;have w2:=W.hi;have w3:=W.len;obtain⟨j,rfl⟩:∃j,k=j+1:=⟨k-1,by have:=Ab c6;omega⟩
  rw[show(((j+1:Nat):Int)-1)=(j:Int) by omega,(W.byte FZ Fn).1]at c7;exact ai (Ah c7) Fn
 apply aI<;>intro c8
 .obtain⟨j,rfl⟩:∃j,k=j+1:=⟨k-1,by have:=Ab c6;omega⟩
  exact W.next FZ r1 hk
 .have w1:=W.lo;have w2:=W.hi;have w3:=W.len;obtain⟨j,rfl⟩:∃j,k=j+1:=⟨k-1,by have:=Ab c6;omega⟩
  rw[show(((j+1:Nat):Int)-1)=(j:Int) by omega,(W.byte FZ Fn).1]at c8;exact ai (Ab c8) Fn
 refine⟨?_,?_⟩
 .exact⟨by have:=bR c0;omega,HO⟩
 intro e;have OV:=e.1;(try simp only[e,aC,aj,-eq_self]);clear e;apply aI<;>intro c9;have hs:aR n=ZB:=c0;have LA:=bR hs;have f0:inr 1048576 m.l0 at_ n=ZC:=c1;have f1:inr 2097152 m.l1 at_ n=ZC:=c5;have f2:inr 3145728 m.l2 at_ n=ZB:=c9;have W:=Win.of f2 Iu ST HO Fn Fn;refine⟨fun ds=>∃k:Nat,ds=[.z (CM ((BS 3145728 m.l2 at_ n).drop k)),.z ((k:Int)-1)]/\k<=n.toNat,fun ds=>(dI ds 1+1).toNat,⟨n.toNat,by rw[J5 Fn Fn,List.drop_eq_nil_of_le Yd,show((n.toNat:Nat):Int)-1=n-1 by omega];rfl,ZK _⟩,?_⟩;intro U1 A0 _ Bc;obtain⟨k,Br,hk⟩:=Bc;simp only[Be,LV,and_true]at Br;obtain⟨D7,Fe⟩:=Br;have R3:=kL A0 M3;have D6:U1.i 11=at_-3145728:=(kI A0 OV).trans (rA f2 Fn);simp only[D7,Fe,R3,D6,-eq_self];apply aI<;>intro BF
 .have hs:aR n=ZB:=c0;have LA:=bR hs;have f0:inr 1048576 m.l0 at_ n=ZC:=c1;have f1:inr 2097152 m.l1 at_ n=ZC:=c5;have f2:inr 3145728 m.l2 at_ n=ZB:=c9;obtain rfl:k=0:=by have:=Ah BF;omega
  simp[FQ,H3,Mem.reg,Gn,hs,f0,f1,f2]
 apply aI<;>intro CF
 .have w1:=W.lo;have w2:=W.hi;have w3:=W.len;obtain⟨j,rfl⟩:∃j,k=j+1:=⟨k-1,by have:=Ab BF;omega⟩
  rw[show(((j+1:Nat):Int)-1)=(j:Int) by omega,(W.byte HO Fn).1]at CF;exact ai (Ah CF) Fn
 apply aI<;>intro B9
 .obtain⟨j,rfl⟩:∃j,k=j+1:=⟨k-1,by have:=Ab BF;omega⟩
  exact W.next HO r2 hk
 .have w1:=W.lo;have w2:=W.hi;have w3:=W.len;obtain⟨j,rfl⟩:∃j,k=j+1:=⟨k-1,by have:=Ab BF;omega⟩
  rw[show(((j+1:Nat):Int)-1)=(j:Int) by omega,(W.byte HO Fn).1]at B9;exact ai (Ab B9) Fn
 refine⟨?_,?_⟩
 .exact⟨by have:=bR c0;omega,MR⟩
 intro e;have OW:=e.1;(try simp only[e,aC,aj,-eq_self]);clear e;apply aI<;>intro Cr;have hs:aR n=ZB:=c0;have LA:=bR hs;have f0:inr 1048576 m.l0 at_ n=ZC:=c1;have f1:inr 2097152 m.l1 at_ n=ZC:=c5;have f2:inr 3145728 m.l2 at_ n=ZC:=c9;have f3:inr 4194304 m.l3 at_ n=ZB:=Cr;have W:=Win.of f3 Iu ST MR Fn Fn;refine⟨fun ds=>∃k:Nat,ds=[.z (CM ((BS 4194304 m.l3 at_ n).drop k)),.z ((k:Int)-1)]/\k<=n.toNat,fun ds=>(dI ds 1+1).toNat,⟨n.toNat,by rw[J5 Fn Fn,List.drop_eq_nil_of_le Yd,show((n.toNat:Nat):Int)-1=n-1 by omega];rfl,ZK _⟩,?_⟩;intro U1 A0 _ Bc;obtain⟨k,Br,hk⟩:=Bc;simp only[Be,LV,and_true]at Br;obtain⟨Ff,Fg⟩:=Br;have R4:=kL A0 M4;have D7:U1.i 13=at_-4194304:=(kI A0 OW).trans (rA f3 Fn);simp only[Ff,Fg,R4,D7,-eq_self];apply aI<;>intro CG
 .have hs:aR n=ZB:=c0;have LA:=bR hs;have f0:inr 1048576 m.l0 at_ n=ZC:=c1;have f1:inr 2097152 m.l1 at_ n=ZC:=c5;have f2:inr 3145728 m.l2 at_ n=ZC:=c9;have f3:inr 4194304 m.l3 at_ n=ZB:=Cr;obtain rfl:k=0:=by have:=Ah CG;omega
  simp[FQ,H3,Mem.reg,Gn,hs,f0,f1,f2,f3]
 apply aI<;>intro C1
 .have w1:=W.lo;have w2:=W.hi;have w3:=W.len;obtain⟨j,rfl⟩:∃j,k=j+1:=⟨k-1,by have:=Ab CG;omega⟩
  rw[show(((j+1:Nat):Int)-1)=(j:Int) by omega,(W.byte MR Fn).1]at C1;exact ai (Ah C1) Fn
 apply aI<;>intro Dk
 .obtain⟨j,rfl⟩:∃j,k=j+1:=⟨k-1,by have:=Ab CG;omega⟩
  exact W.next MR r3 hk
 .have w1:=W.lo;have w2:=W.hi;have w3:=W.len;obtain⟨j,rfl⟩:∃j,k=j+1:=⟨k-1,by have:=Ab CG;omega⟩
  rw[show(((j+1:Nat):Int)-1)=(j:Int) by omega,(W.byte MR Fn).1]at Dk;exact ai (Ab Dk) Fn
 .have hs:aR n=ZB:=c0;have LA:=bR hs;have f0:inr 1048576 m.l0 at_ n=ZC:=c1;have f1:inr 2097152 m.l1 at_ n=ZC:=c5;have f2:inr 3145728 m.l2 at_ n=ZC:=c9;have f3:inr 4194304 m.l3 at_ n=ZC:=Cr;simp[FQ,H3,Mem.reg,Gn,hs,f0,f1,f2,f3]
 .have hs:aR n=ZC:=c0;simp[FQ,H3,hs]
def pU:List Dt->Prop
 |[.z x0,.z x1,.z x2,.z x3,.z x4,.z x5,.z x6,.z x7,.z x8]=>let f (x:Ins):Prop:=A2 x=ZB;f ⟨x0,x1,x2,x3,(x4==1),x5,x6,x7,x8⟩
 |_=>False
def c_jreads:Cd:=⟨53,[.agg kIns],[.one (.int .i64)],rd_Ins fun x _=>[.z (bg x)],pU⟩
def anJ:Tr:=(.br (.lt (.w 6) (.p 0))
.panic
(.u (.cons (.f .or .i64 (.f .shl .i64 (.p 1) (.w 5)) (.f .shl .i64 (.p 1) (.w 6))) .nil)))
def anK:Tr:=(.br (.lt (.w 5) (.p 0))
.panic
(.br (.s 4)
 anJ
(.u (.cons (.f .shl .i64 (.p 1) (.w 5)) .nil))))
def pM:Tr:=
(.br (.eq (.w 0) (.p 0))
(.br (.eq (.w 1) (.p 11))
(.br (.s 4)
(.br (.lt (.w 6) (.p 0))
.panic
(.u (.cons (.f .or .i64 (.p 0) (.f .shl .i64 (.p 1) (.w 6))) .nil)))
(.u (.cons (.p 0) .nil)))
 anK)
(.br (.eq (.w 0) (.p 1))
(.br (.lt (.w 6) (.p 0))
.panic
(.u (.cons (.f .shl .i64 (.p 1) (.w 6)) .nil)))
(.br (.eq (.w 0) (.p 2))
(.br (.lt (.w 5) (.p 0))
.panic
 anJ)
(.br (.eq (.w 0) (.p 3))
 anK
(.br (.eq (.w 0) (.p 5))
(.loop 0 9 [.int .i64,.int .i64] (.cons (.p 1) (.cons (.p 0) .nil))
(.call 0 [.int .i64] (.cons (.w 8) .nil) 11
(.br (.lt (.w 11) (.w 9))
(.u (.cons (.w 10) .nil))
(.br (.lt (.w 9) (.p 0))
.panic
(.next 0 (.cons (.f .add .i64 (.w 9) (.p 1)) (.cons (.f .or .i64 (.w 10) (.f .shl .i64 (.p 1) (.w 9))) .nil)))))))
(.br (.eq (.w 0) (.p 6))
(.u (.cons (.p 1) .nil))
(.u (.cons (.p 0) .nil))))))))
def agz:cg tk (FV 0 [c_jargs]) [] [(18,[.tmpI 4 .i64,.tmpI 3 .i64]++E3 [(50,11)])] [] 200 f53 c_jreads.a c_jreads.r (tp c_jreads.r) (v_Ins []) pM:=E4 (by kernel_rfl)
def alc:c_jreads.Ok ZF:=
 GD pM (v_Ins []) fc (Am ahW AI) func53 EZ agz<|iW fun x hx hp U g=>by
 simp only[c_jreads,pU,eB,b2i_one,aC,aj]at hp;have Aq:=g;simp only[eB,AA,ZD]at g;simp only[pM,anK,anJ,c_jargs,c_jreads,eB,Ai,ZH,ZD,-eq_self,aC,aj,g];apply aI<;>intro c0;apply aI<;>intro c1;apply aI<;>intro c2;apply aI<;>intro c3
 .exact XE
 .exact XG
 .exact XG
 apply aI<;>intro c4
 .exact XE
 apply aI<;>intro c5;apply aI<;>intro c6
 .exact XE
 .exact XG
 .exact XG
 apply aI<;>intro c7;apply aI<;>intro c8
 .exact XE
 .exact XG
 apply aI<;>intro c9;apply aI<;>intro BF
 .exact XE
 apply aI<;>intro CF
 .exact XE
 .exact XG
 apply aI<;>intro B9;apply aI<;>intro Cr
 .exact XE
 apply aI<;>intro CG;apply aI<;>intro C1
 .exact XE
 .exact XG
 .exact XG
 apply aI<;>intro Dk;have hA:=fN x.imm;refine⟨fun ds=>∃k:Nat,ds=[.z (k:Int),.z ((2 ^ k-2:Nat):Int)]/\1<=k/\(k:Int)<=fO x.imm+1,fun ds=>7-(dI ds 0).toNat,⟨1,rfl,by omega,by omega⟩,?_⟩;intro U1 A0 _ Bc;obtain⟨k,Br,h1,h2⟩:=Bc;simp only[Be,LV,and_true]at Br;obtain⟨Eo,D5⟩:=Br;have R1:U1.i 8=x.imm:=(A0 8 ST).1.symm.trans (by simp only[g]);simp only[R1,Eo,D5,-eq_self];refine Xg ?_;apply aI<;>intro Df
 .have q:=Ah Df;have hk:k=1\/k=2\/k=3\/k=4\/k=5\/k=6:=Fn;have D3:fO x.imm=(k:Int)-1:=Fn;have h5:=Bs Dk;unfold bg;rw[D3];simp only[h5];rcases hk with rfl|rfl|rfl|rfl|rfl|rfl<;>rfl
 apply aI<;>intro Dg
 .exact ai (Ah Dg) Fn
 .have q:=Ab Df;have hk:k=1\/k=2\/k=3\/k=4\/k=5:=Fn;rcases hk with rfl|rfl|rfl|rfl|rfl
  .exact⟨⟨2,rfl,by omega,by omega⟩,by decide⟩
  .exact⟨⟨3,rfl,by omega,by omega⟩,by decide⟩
  .exact⟨⟨4,rfl,by omega,by omega⟩,by decide⟩
  .exact⟨⟨5,rfl,by omega,by omega⟩,by decide⟩
  .exact⟨⟨6,rfl,by omega,by omega⟩,by decide⟩
 apply aI<;>intro Dz
 .exact XG
 .exact XG
def yI:List Dt->Prop
 |[.z x0,.z x1,.z x2,.z x3,.z x4,.z x5,.z x6,.z x7,.z x8,.z x9,.z J7,.z Ln,.z ME,.z Pn,.z Po,.z Pp,.z Pq,.z Pr,.z Ps,.z SC]=>let f (m:JMd) (x:Ins):Prop:=x.br=ZB->0<=x.s/\x.s<=10;f ⟨x0,x1,x2,x3,x4,x5,x6,x7,x8,x9,J7⟩ ⟨Ln,ME,Pn,Po,(Pp==1),Pq,Pr,Ps,SC⟩
 |_=>False
def c_jsec:Cd:=⟨55,[.ptr kJMd,.agg kIns],[.one (.int .u64)],rd_JMd fun m=>rd_Ins fun x _=>[.z (EF m x)],yI⟩
def ago:Tr:=
(.br (.s 15)
(.br (.eq (.w 17) (.p 0))
(.u (.cons (.w 0) .nil))
(.br (.eq (.w 17) (.p 1))
(.u (.cons (.w 1) .nil))
(.br (.eq (.w 17) (.p 2))
(.u (.cons (.w 2) .nil))
(.br (.eq (.w 17) (.p 3))
(.u (.cons (.w 3) .nil))
(.br (.eq (.w 17) (.p 4))
(.u (.cons (.w 4) .nil))
(.br (.eq (.w 17) (.p 5))
(.u (.cons (.w 5) .nil))
(.br (.eq (.w 17) (.p 6))
(.u (.cons (.w 6) .nil))
(.br (.eq (.w 17) (.p 7))
(.u (.cons (.w 7) .nil))
(.br (.eq (.w 17) (.p 8))
(.u (.cons (.w 8) .nil))
(.br (.eq (.w 17) (.p 9))
(.u (.cons (.w 9) .nil))
(.br (.eq (.w 17) (.p 10))
(.u (.cons (.w 10) .nil))
.panic)))))))))))
(.u (.cons (.F .u64 (.w 19)) .nil)))
def ato:c_jsec.Ok ZF:=
 AU ago (v_JMd (v_Ins [])) fc AI func55<|aq2 fun m hm=>iW fun x hx hp U g=>by
 simp only[c_jsec,yI,QA,eB,b2i_one,aC,aj]at hp;simp only[QA,eB,AA,ZD]at g;simp only[ago,c_jsec,QA,eB,Ai,ZH,ZD,-eq_self,aC,aj,g];apply aI<;>intro c0;apply aI<;>intro c1
 ·(unfold EF;rw[c0,Bs c1];rfl)
 apply aI<;>intro c2
 ·(unfold EF;rw[c0,Bs c2];rfl)
 apply aI<;>intro c3
 ·(unfold EF;rw[c0,Bs c3];rfl)
 apply aI<;>intro c4
 ·(unfold EF;rw[c0,Bs c4];rfl)
 apply aI<;>intro c5
 ·(unfold EF;rw[c0,Bs c5];rfl)
 apply aI<;>intro c6
 ·(unfold EF;rw[c0,Bs c6];rfl)
 apply aI<;>intro c7
 ·(unfold EF;rw[c0,Bs c7];rfl)
 apply aI<;>intro c8
 ·(unfold EF;rw[c0,Bs c8];rfl)
 apply aI<;>intro c9
 ·(unfold EF;rw[c0,Bs c9];rfl)
 apply aI<;>intro BF
 ·(unfold EF;rw[c0,Bs BF];rfl)
 apply aI<;>intro CF
 ·(unfold EF;rw[c0,Bs CF];rfl)
 ·(have q:=hp c0;have n0:=Ch c1;have n1:=Ch c2;have n2:=Ch c3;have n3:=Ch c4;have n4:=Ch c5;have n5:=Ch c6;have n6:=Ch c7;have n7:=Ch c8;have n8:=Ch c9;have n9:=Ch BF;have n10:=Ch CF;omega)
 ·(unfold EF;rw[c0];rfl)
def kJ:List Dt->Prop
 |[.l x0]=>let f (b:LL):Prop:=b.length<=1048576;f x0
 |_=>False
def c_jsame:Cd:=⟨62,[.one (.sl [ZA .u8] 5)],[.one (.sl [ZA .u8] 5)],rdL fun b _=>[.l b],kJ⟩
def aa5:Tr:=
(.br (.lt (.len (.g 0)) (.p 1073741824))
(.u (.N (.g 0) .nil))
.panic)
def ahU:c_jsame.Ok ZF:=
 AU (hl:=.inr (.inl ⟨(fun xs (h:kJ xs) L hL=>by unfold kJ at h;split at h<;>first|exact h.elim|(simp at hL;rcases hL with rfl;exact dd h ST)),rfl⟩)) aa5 [.list [ZA .u8]] fc AI func62<|fun b hb hp U g=>by
 simp only[c_jsame,kJ,b2i_one,aC,aj]at hp;simp only[AA,ZD]at g;simp only[aa5,c_jsame,Ai,ZH,ZD,-eq_self,aC,aj,g];apply aI<;>intro c0
 .rfl
 ·(have q:=Ab c0;omega)
def jR:List Dt->Prop
 |[.l x0,.l x1,.l x2,.l x3]=>let f (m:JMem):Prop:=m.l0=[]/\m.l1.length<=256/\m.l2.length=64/\m.l3=[];f ⟨x0,x1,x2,x3⟩
 |_=>False
def c_jframe:Cd:=⟨59,[.ptr kJMem],[.agg kF64],rd_JMem fun m _=>d_F64 (f64 m.l2) [],jR⟩
def pO:Tr:=
(.br (.lt (.p 0) (.len (.g 2)))
(.br (.lt (.p 1) (.len (.g 2)))
(.br (.lt (.p 2) (.len (.g 2)))
(.br (.lt (.p 3) (.len (.g 2)))
(.br (.lt (.p 4) (.len (.g 2)))
(.br (.lt (.p 5) (.len (.g 2)))
(.br (.lt (.p 6) (.len (.g 2)))
(.br (.lt (.p 7) (.len (.g 2)))
(.br (.lt (.p 8) (.len (.g 2)))
(.br (.lt (.p 9) (.len (.g 2)))
(.br (.lt (.p 10) (.len (.g 2)))
(.br (.lt (.p 11) (.len (.g 2)))
(.br (.lt (.p 12) (.len (.g 2)))
(.br (.lt (.p 13) (.len (.g 2)))
(.br (.lt (.p 14) (.len (.g 2)))
(.br (.lt (.p 15) (.len (.g 2)))
(.br (.lt (.p 16) (.len (.g 2)))
(.br (.lt (.p 17) (.len (.g 2)))
(.br (.lt (.p 18) (.len (.g 2)))
(.br (.lt (.p 19) (.len (.g 2)))
(.br (.lt (.p 20) (.len (.g 2)))
(.br (.lt (.p 21) (.len (.g 2)))
(.br (.lt (.p 22) (.len (.g 2)))
(.br (.lt (.p 23) (.len (.g 2)))
(.br (.lt (.p 24) (.len (.g 2)))
(.br (.lt (.p 25) (.len (.g 2)))
(.br (.lt (.p 26) (.len (.g 2)))
(.br (.lt (.p 27) (.len (.g 2)))
(.br (.lt (.p 28) (.len (.g 2)))
(.br (.lt (.p 29) (.len (.g 2)))
(.br (.lt (.p 30) (.len (.g 2)))
(.br (.lt (.p 31) (.len (.g 2)))
(.br (.lt (.p 32) (.len (.g 2)))
(.br (.lt (.p 33) (.len (.g 2)))
(.br (.lt (.p 34) (.len (.g 2)))
(.br (.lt (.p 35) (.len (.g 2)))
(.br (.lt (.p 36) (.len (.g 2)))
(.br (.lt (.p 37) (.len (.g 2)))
(.br (.lt (.p 38) (.len (.g 2)))
(.br (.lt (.p 39) (.len (.g 2)))
(.br (.lt (.p 40) (.len (.g 2)))
(.br (.lt (.p 41) (.len (.g 2)))
(.br (.lt (.p 42) (.len (.g 2)))
(.br (.lt (.p 43) (.len (.g 2)))
(.br (.lt (.p 44) (.len (.g 2)))
(.br (.lt (.p 45) (.len (.g 2)))
(.br (.lt (.p 46) (.len (.g 2)))
(.br (.lt (.p 47) (.len (.g 2)))
(.br (.lt (.p 48) (.len (.g 2)))
(.br (.lt (.p 49) (.len (.g 2)))
(.br (.lt (.p 50) (.len (.g 2)))
(.br (.lt (.p 51) (.len (.g 2)))
(.br (.lt (.p 52) (.len (.g 2)))
(.br (.lt (.p 53) (.len (.g 2)))
(.br (.lt (.p 54) (.len (.g 2)))
(.br (.lt (.p 55) (.len (.g 2)))
(.br (.lt (.p 56) (.len (.g 2)))
(.br (.lt (.p 57) (.len (.g 2)))
(.br (.lt (.p 58) (.len (.g 2)))
(.br (.lt (.p 59) (.len (.g 2)))
(.br (.lt (.p 60) (.len (.g 2)))
(.br (.lt (.p 61) (.len (.g 2)))
(.br (.lt (.p 62) (.len (.g 2)))
(.br (.lt (.p 63) (.len (.g 2)))
(.u (.cons (.get (.g 2) (.p 0) 0) (.cons (.get (.g 2) (.p 1) 0) (.cons (.get (.g 2) (.p 2) 0) (.cons (.get (.g 2) (.p 3) 0) (.cons (.get (.g 2) (.p 4) 0) (.cons (.get (.g 2) (.p 5) 0) (.cons (.get (.g 2) (.p 6) 0) (.cons (.get (.g 2) (.p 7) 0) (.cons (.get (.g 2) (.p 8) 0) (.cons (.get (.g 2) (.p 9) 0) (.cons (.get (.g 2) (.p 10) 0) (.cons (.get (.g 2) (.p 11) 0) (.cons (.get (.g 2) (.p 12) 0) (.cons (.get (.g 2) (.p 13) 0) (.cons (.get (.g 2) (.p 14) 0) (.cons (.get (.g 2) (.p 15) 0) (.cons (.get (.g 2) (.p 16) 0) (.cons (.get (.g 2) (.p 17) 0) (.cons (.get (.g 2) (.p 18) 0) (.cons (.get (.g 2) (.p 19) 0) (.cons (.get (.g 2) (.p 20) 0) (.cons (.get (.g 2) (.p 21) 0) (.cons (.get (.g 2) (.p 22) 0) (.cons (.get (.g 2) (.p 23) 0) (.cons (.get (.g 2) (.p 24) 0) (.cons (.get (.g 2) (.p 25) 0) (.cons (.get (.g 2) (.p 26) 0) (.cons (.get (.g 2) (.p 27) 0) (.cons (.get (.g 2) (.p 28) 0) (.cons (.get (.g 2) (.p 29) 0) (.cons (.get (.g 2) (.p 30) 0) (.cons (.get (.g 2) (.p 31) 0) (.cons (.get (.g 2) (.p 32) 0) (.cons (.get (.g 2) (.p 33) 0) (.cons (.get (.g 2) (.p 34) 0) (.cons (.get (.g 2) (.p 35) 0) (.cons (.get (.g 2) (.p 36) 0) (.cons (.get (.g 2) (.p 37) 0) (.cons (.get (.g 2) (.p 38) 0) (.cons (.get (.g 2) (.p 39) 0) (.cons (.get (.g 2) (.p 40) 0) (.cons (.get (.g 2) (.p 41) 0) (.cons (.get (.g 2) (.p 42) 0) (.cons (.get (.g 2) (.p 43) 0) (.cons (.get (.g 2) (.p 44) 0) (.cons (.get (.g 2) (.p 45) 0) (.cons (.get (.g 2) (.p 46) 0) (.cons (.get (.g 2) (.p 47) 0) (.cons (.get (.g 2) (.p 48) 0) (.cons (.get (.g 2) (.p 49) 0) (.cons (.get (.g 2) (.p 50) 0) (.cons (.get (.g 2) (.p 51) 0) (.cons (.get (.g 2) (.p 52) 0) (.cons (.get (.g 2) (.p 53) 0) (.cons (.get (.g 2) (.p 54) 0) (.cons (.get (.g 2) (.p 55) 0) (.cons (.get (.g 2) (.p 56) 0) (.cons (.get (.g 2) (.p 57) 0) (.cons (.get (.g 2) (.p 58) 0) (.cons (.get (.g 2) (.p 59) 0) (.cons (.get (.g 2) (.p 60) 0) (.cons (.get (.g 2) (.p 61) 0) (.cons (.get (.g 2) (.p 62) 0) (.cons (.get (.g 2) (.p 63) 0) .nil)))))))))))))))))))))))))))))))))))))))))))))))))))))))))))))))))
.panic)
.panic)
.panic)
.panic)
.panic)
.panic)
.panic)
.panic)
.panic)
.panic)
.panic)
.panic)
.panic)
.panic)
.panic)
.panic)
.panic)
.panic)
.panic)
.panic)
.panic)
.panic)
.panic)
.panic)
.panic)
.panic)
.panic)
.panic)
.panic)
.panic)
.panic)
.panic)
.panic)
.panic)
.panic)
.panic)
.panic)
.panic)
.panic)
.panic)
.panic)
.panic)
.panic)
.panic)
.panic)
.panic)
.panic)
.panic)
.panic)
.panic)
.panic)
.panic)
.panic)
.panic)
.panic)
.panic)
.panic)
.panic)
.panic)
.panic)
.panic)
.panic)
.panic)
.panic)
def agB:cg tk (FV 0 []) [] [] [] 200 f59 c_jframe.a c_jframe.r (tp c_jframe.r) (v_JMem []) pO:=E4 (by kernel_rfl)
def ale:c_jframe.Ok ZF:=
 GD (hl:=.inr (.inl ⟨(fun xs (h:jR xs) L hL=>by unfold jR at h;split at h<;>first|exact h.elim|(simp at hL;rcases hL with rfl|rfl|rfl|rfl;exact dd (Nat.le_of_eq (congrArg List.length h.1)) ST;exact dd h.2.1 ST;exact dd (Nat.le_of_eq h.2.2.1) ST;exact dd (Nat.le_of_eq (congrArg List.length h.2.2.2)) ST)),rfl⟩)) pO (v_JMem []) fc AI func59 EZ agB<|uD fun m hm hp U g=>by
 simp only[c_jframe,jR,jZ,QB,b2i_one,aC,aj]at hp;simp only[jZ,QB,AA,ZD]at g;simp only[pO,c_jframe,jZ,QB,Ai,ZH,ZD,-eq_self,aC,aj,g];apply aI<;>intro c0;apply aI<;>intro c1;apply aI<;>intro c2;apply aI<;>intro c3;apply aI<;>intro c4;apply aI<;>intro c5;apply aI<;>intro c6;apply aI<;>intro c7;apply aI<;>intro c8;apply aI<;>intro c9;apply aI<;>intro BF;apply aI<;>intro CF;apply aI<;>intro B9;apply aI<;>intro Cr;apply aI<;>intro CG;apply aI<;>intro C1;apply aI<;>intro Dk;apply aI<;>intro Df;apply aI<;>intro Dg;apply aI<;>intro Dz;apply aI<;>intro DA;apply aI<;>intro EM;apply aI<;>intro FY;apply aI<;>intro GH;apply aI<;>intro HA;apply aI<;>intro Gd;apply aI<;>intro Jx;apply aI<;>intro Io;apply aI<;>intro I9;apply aI<;>intro J9;apply aI<;>intro Ka;apply aI<;>intro Kb;apply aI<;>intro Jy;apply aI<;>intro KD;apply aI<;>intro KE;apply aI<;>intro Ls;apply aI<;>intro LP;apply aI<;>intro Kc;apply aI<;>intro Lt;apply aI<;>intro Lu;apply aI<;>intro KF;apply aI<;>intro KG;apply aI<;>intro Kd;apply aI<;>intro Jz;apply aI<;>intro Lv;apply aI<;>intro Ke;apply aI<;>intro HB;apply aI<;>intro Kf;apply aI<;>intro Kg;apply aI<;>intro Kh;apply aI<;>intro Ki;apply aI<;>intro Kj;apply aI<;>intro JA;apply aI<;>intro c53;apply aI<;>intro c54;apply aI<;>intro c55;apply aI<;>intro c56;apply aI<;>intro c57;apply aI<;>intro c58;apply aI<;>intro c59;apply aI<;>intro c60;apply aI<;>intro c61;apply aI<;>intro c62;apply aI<;>intro c63
 .rfl
 .exact ai (Ab c63) Xn
 .exact ai (Ab c62) Xn
 .exact ai (Ab c61) Xn
 .exact ai (Ab c60) Xn
 .exact ai (Ab c59) Xn
 .exact ai (Ab c58) Xn
 .exact ai (Ab c57) Xn
 .exact ai (Ab c56) Xn
 .exact ai (Ab c55) Xn
 .exact ai (Ab c54) Xn
 .exact ai (Ab c53) Xn
 .exact ai (Ab JA) Xn
 .exact ai (Ab Kj) Xn
 .exact ai (Ab Ki) Xn
 .exact ai (Ab Kh) Xn
 .exact ai (Ab Kg) Xn
 .exact ai (Ab Kf) Xn
 .exact ai (Ab HB) Xn
 .exact ai (Ab Ke) Xn
 .exact ai (Ab Lv) Xn
 .exact ai (Ab Jz) Xn
 .exact ai (Ab Kd) Xn
 .exact ai (Ab KG) Xn
 .exact ai (Ab KF) Xn
 .exact ai (Ab Lu) Xn
 .exact ai (Ab Lt) Xn
 .exact ai (Ab Kc) Xn
 .exact ai (Ab LP) Xn
 .exact ai (Ab Ls) Xn
 .exact ai (Ab KE) Xn
 .exact ai (Ab KD) Xn
 .exact ai (Ab Jy) Xn
 .exact ai (Ab Kb) Xn
 .exact ai (Ab Ka) Xn
 .exact ai (Ab J9) Xn
 .exact ai (Ab I9) Xn
 .exact ai (Ab Io) Xn
 .exact ai (Ab Jx) Xn
 .exact ai (Ab Gd) Xn
 .exact ai (Ab HA) Xn
 .exact ai (Ab GH) Xn
 .exact ai (Ab FY) Xn
 .exact ai (Ab EM) Xn
 .exact ai (Ab DA) Xn
 .exact ai (Ab Dz) Xn
 .exact ai (Ab Dg) Xn
 .exact ai (Ab Df) Xn
 .exact ai (Ab Dk) Xn
 .exact ai (Ab C1) Xn
 .exact ai (Ab CG) Xn
 .exact ai (Ab Cr) Xn
 .exact ai (Ab B9) Xn
 .exact ai (Ab CF) Xn
 .exact ai (Ab BF) Xn
 .exact ai (Ab c9) Xn
 .exact ai (Ab c8) Xn
 .exact ai (Ab c7) Xn
 .exact ai (Ab c6) Xn
 .exact ai (Ab c5) Xn
 .exact ai (Ab c4) Xn
 .exact ai (Ab c3) Xn
 .exact ai (Ab c2) Xn
 .exact ai (Ab c1) Xn
 .exact ai (Ab c0) Xn
def pV:List Dt->Prop
 |[.l x0,.l x1,.l x2,.l x3]=>let f (m:JMem):Prop:=m.l0=[]/\m.l1.length<=256/\m.l2.length=64/\m.l3=[];f ⟨x0,x1,x2,x3⟩
 |_=>False
def c_jctx:Cd:=⟨21,[.ptr kJMem],[.one (.sl [ZA .u8] 5)],rd_JMem fun m _=>[.l m.l1],pV⟩
def agr:Tr:=
(.call 0 [.sl [ZA .u8] 5] (.N (.g 1) .nil) 4
(.u (.N (.g 4) .nil)))
def ats:c_jctx.Ok ZF:=
 AU (hl:=.inr (.inl ⟨(fun xs (h:pV xs) L hL=>by unfold pV at h;split at h<;>first|exact h.elim|(simp at hL;rcases hL with rfl|rfl|rfl|rfl;exact dd (Nat.le_of_eq (congrArg List.length h.1)) ST;exact dd h.2.1 ST;exact dd (Nat.le_of_eq h.2.2.1) ST;exact dd (Nat.le_of_eq (congrArg List.length h.2.2.2)) ST)),rfl⟩)) agr (v_JMem []) fc (Am ahU AI) func21<|uD fun m hm hp U g=>by
 simp only[c_jctx,pV,jZ,b2i_one,aC,aj]at hp;simp only[jZ,AA,ZD]at g;simp only[agr,c_jsame,c_jctx,kJ,jZ,Ai,ZH,ZD,-eq_self,aC,aj,g];refine⟨?_,?_⟩
 .exact dd hp.2.1 ST
 refine Xg ?_
 .rfl
def dg(k:q2)(h:p->q=q2:=by intro e;(try simp only[e,aC,aj,-eq_self]);rfl):p->q:=fun e=>(h e).symm▸k
def aey:List (Nat×TI):=[(2,CC),
 (3,CZ),
 (4,EK),
 (5,Lk),
 (22,vq),
 (24,vp),
 (25,aoU),
 (26,aoT),
 (33,Qt),
 (36,Ue),
 (37,arV),
 (38,fY),
 (39,fe),
 (40,aoS),
 (42,arU),
 (60,Qs),
 (61,Qr),
 (63,Qq),
 (66,qZ),
 (87,arT),
 (89,arS),
 (138,amf),
 (178,WS)]
def aen:∀t i,(t,i)∈aey->TIok ZF t i:=bl (DS (z:=lX) ⟨ly,iq⟩ B1) B1 (by kernel_rfl)
def jP:List Dt->Prop
 |[.z x0,.l x1,.l x2,.l x3,.z x4]=>let f (p:Prog) (cx:LL) (an:LL) (fu:Int):Prop:=(p.l.length<=maxLen/\cx.length<=maxLen)/\an.length<=maxLen;f ⟨x0,x1⟩ x2 x3 x4
 |_=>False
def c_jsnaps:Cd:=⟨7,[.agg kProg,.one (.sl [ZA .u8] 5),.one (.sl [ZA .u64] 39),.one (.int .i64)],[.one (.sl [ZA .i64] 3),.one (.sl Mm 63),.agg kOut,.one (.int .i64)],rd_Prog fun p=>rdL fun cx=>rdL fun an=>rdZ fun fu _=>.l ((cW p cx an fu).1)::.l ((cW p cx an fu).2)::d_Out ((Cm p cx an fu).1) [.z ((Cm p cx an fu).2)],jP⟩
def anB:E:=(.cons (.F .i64 (.get (.g 1) (.w 86) 3)) .nil)
def PK:E:=(.N (.g 88) (.cons (.w 93) (.cons (.p 0) .nil)))
def sO:E:=(.N (.g 7) (.N (.g 89) (.N (.g 90) (.N .ln .nil))))
def anC:E:=(.N (.g 95) PK)
def anD:E:=(.cons (.nth (.get (.g 1) (.w 86) 5) (.vs 10 11 .nil)) (.cons (.w 95) .nil))
def anE:E:=(.cons (.p 0) anC)
def Qk:E:=(.N (.lq (.g 91) (.cons (.w 86) .nil)) (.N (.lq (.g 92) (.vs 10 76 .nil)) .nil))
def Ql:E:=(.f .add .u64 (.nth (.get (.g 1) (.w 86) 5) (.vs 10 11 .nil)) (.F .u64 (.get (.g 1) (.w 86) 7)))
def Uk:E:=(.cons (.p 0) (.cons (.nth (.get (.g 1) (.w 86) 6) (.vs 10 11 .nil)) (.N (.g 89) (.N (.g 90) .nil))))
def anF:E:=(.N (.g 89) (.N (.g 90) Qk))
def Ul:Tr:=(.u (.N .ln (.N .ln (.cons (.p 0) (.cons (.p 0) (.N .ln (.N .ln (.cons (.p 0) (.cons (.p 2) .nil)))))))))
def Um:E:=(.N (.g 87) (.N (.g 88) anF))
def anG:E:=(.cons (.f .add .i64 (.w 86) (.p 1)) Um)
def anH:Tr:=(.next 0 (.cons (.w 93) (.vs 10 76 anG)))
def anI:E:=(.cons (.f .or .i64 (.w 21) (.f .shl .i64 (.p 1) (.get (.g 1) (.w 86) 5))) (.vs 22 64 anG))
def pL:Tr:=
(.call 0 [.int .i64,.int .i64] (.cons (.w 0) (.N (.g 1) .nil)) 5
(.br (.eq (.w 6) (.p 0))
(.br (.eq (.len (.g 2)) (.w 0))
(.br (.lt (.w 4) (.p 0))
 Ul
(.br (.lt (.p 10000) (.w 4))
 Ul
(.br (.lt (.p 256) (.len (.g 2)))
(.stuck 113)
(.call 10 [.sl [ZA .u8] 5] (.N .ln .nil) 7
(.call 10 [.sl [ZA .u8] 5] (.N (.g 2) .nil) 8
(.loop 0 9 [.int .i64,.int .u64,.int .u64,.int .u64,.int .u64,.int .u64,.int .u64,.int .u64,.int .u64,.int .u64,.int .u64,.int .u64,.int .i64,.int .u8,.int .u8,.int .u8,.int .u8,.int .u8,.int .u8,.int .u8,.int .u8,.int .u8,.int .u8,.int .u8,.int .u8,.int .u8,.int .u8,.int .u8,.int .u8,.int .u8,.int .u8,.int .u8,.int .u8,.int .u8,.int .u8,.int .u8,.int .u8,.int .u8,.int .u8,.int .u8,.int .u8,.int .u8,.int .u8,.int .u8,.int .u8,.int .u8,.int .u8,.int .u8,.int .u8,.int .u8,.int .u8,.int .u8,.int .u8,.int .u8,.int .u8,.int .u8,.int .u8,.int .u8,.int .u8,.int .u8,.int .u8,.int .u8,.int .u8,.int .u8,.int .u8,.int .u8,.int .u8,.int .u8,.int .u8,.int .u8,.int .u8,.int .u8,.int .u8,.int .u8,.int .u8,.int .u8,.int .u8,.int .i64,.list [ZA .u64],.list (kN 8 11111212),.list [ZA .u8],.list [ZA .u8],.list [ZA .i64],.list Mm] (.cons (.w 4) (.zs [0,2097152,0,0,0,0,0,0,0,0,3145792,1026,0,0,0,0,0,0,0,0,0,0,0,0,0,0,0,0,0,0,0,0,0,0,0,0,0,0,0,0,0,0,0,0,0,0,0,0,0,0,0,0,0,0,0,0,0,0,0,0,0,0,0,0,0,0,0,0,0,0,0,0,0,0,0,0,0] (.N (.g 3) (.N .ln (.N (.g 8) (.N (.lrep (.p 64) (.cons (.p 0) .nil)) (.N .ln (.N .ln .nil))))))))
(.br (.lt (.p 0) (.w 9))
(.br (.lt (.len (.g 91)) (.p 1073741824))
(.br (.lt (.len (.g 92)) (.p 1073741824))
(.cut 1 93 [.int .i64]
(.next 1 (.cons (.f .sub .i64 (.w 9) (.p 1)) .nil))
(.br (.lt (.w 86) (.p 0))
.panic
(.br (.lt (.w 86) (.len (.g 1)))
(.call 1 [.int .i64] (.ins (.g 1) (.w 86) .nil) 94
(.br (.eq (.f .andNot .i64 (.w 94) (.w 21)) (.p 0))
(.br (.eq (.get (.g 1) (.w 86) 0) (.p 0))
(.br (.lt (.get (.g 1) (.w 86) 5) (.p 0))
.panic
(.br (.lt (.get (.g 1) (.w 86) 5) (.p 11))
(.call 2 [.int .u64] (.vs 10 11 (.ins (.g 1) (.w 86) .nil)) 95
(.call 3 [.int .u64,.int .i64] (.cons (.get (.g 1) (.w 86) 1) (.cons (.get (.g 1) (.w 86) 2) anD)) 96
(.next 0 (.cons (.w 93) (.cons (.ite (.eq (.get (.g 1) (.w 86) 5) (.p 0)) (.w 96) (.w 10)) (.cons (.ite (.eq (.get (.g 1) (.w 86) 5) (.p 1)) (.w 96) (.w 11)) (.cons (.ite (.eq (.get (.g 1) (.w 86) 5) (.p 2)) (.w 96) (.w 12)) (.cons (.ite (.eq (.get (.g 1) (.w 86) 5) (.p 3)) (.w 96) (.w 13)) (.cons (.ite (.eq (.get (.g 1) (.w 86) 5) (.p 4)) (.w 96) (.w 14)) (.cons (.ite (.eq (.get (.g 1) (.w 86) 5) (.p 5)) (.w 96) (.w 15)) (.cons (.ite (.eq (.get (.g 1) (.w 86) 5) (.p 6)) (.w 96) (.w 16)) (.cons (.ite (.eq (.get (.g 1) (.w 86) 5) (.p 7)) (.w 96) (.w 17)) (.cons (.ite (.eq (.get (.g 1) (.w 86) 5) (.p 8)) (.w 96) (.w 18)) (.cons (.ite (.eq (.get (.g 1) (.w 86) 5) (.p 9)) (.w 96) (.w 19)) (.cons (.ite (.eq (.get (.g 1) (.w 86) 5) (.p 10)) (.w 96) (.w 20)) anI)))))))))))))))
.panic))
(.br (.eq (.get (.g 1) (.w 86) 0) (.p 1))
(.br (.lt (.get (.g 1) (.w 86) 6) (.p 0))
.panic
(.br (.lt (.get (.g 1) (.w 86) 6) (.p 11))
(.call 7 [.int .u64,.int .i64] (.N (.g 7) (.N (.g 89) (.N (.g 90) (.N .ln (.cons (.f .add .u64 (.nth (.get (.g 1) (.w 86) 6) (.vs 10 11 .nil)) (.F .u64 (.get (.g 1) (.w 86) 7))) anB))))) 95
(.br (.eq (.w 96) (.p 0))
(.br (.lt (.get (.g 1) (.w 86) 5) (.p 0))
.panic
(.br (.lt (.get (.g 1) (.w 86) 5) (.p 11))
(.next 0 (.cons (.w 93) (.cons (.ite (.eq (.get (.g 1) (.w 86) 5) (.p 0)) (.w 95) (.w 10)) (.cons (.ite (.eq (.get (.g 1) (.w 86) 5) (.p 1)) (.w 95) (.w 11)) (.cons (.ite (.eq (.get (.g 1) (.w 86) 5) (.p 2)) (.w 95) (.w 12)) (.cons (.ite (.eq (.get (.g 1) (.w 86) 5) (.p 3)) (.w 95) (.w 13)) (.cons (.ite (.eq (.get (.g 1) (.w 86) 5) (.p 4)) (.w 95) (.w 14)) (.cons (.ite (.eq (.get (.g 1) (.w 86) 5) (.p 5)) (.w 95) (.w 15)) (.cons (.ite (.eq (.get (.g 1) (.w 86) 5) (.p 6)) (.w 95) (.w 16)) (.cons (.ite (.eq (.get (.g 1) (.w 86) 5) (.p 7)) (.w 95) (.w 17)) (.cons (.ite (.eq (.get (.g 1) (.w 86) 5) (.p 8)) (.w 95) (.w 18)) (.cons (.ite (.eq (.get (.g 1) (.w 86) 5) (.p 9)) (.w 95) (.w 19)) (.cons (.ite (.eq (.get (.g 1) (.w 86) 5) (.p 10)) (.w 95) (.w 20)) anI)))))))))))))
.panic))
(.call 12 [.sl [ZA .u8] 5] sO 97
(.u (.N (.lq (.g 91) (.cons (.w 86) .nil)) (.N (.lq (.g 92) (.vs 10 76 .nil)) (.cons (.p 3) (.cons (.p 0) (.N (.g 97) PK)))))))))
.panic))
(.br (.eq (.get (.g 1) (.w 86) 0) (.p 2))
(.br (.lt (.get (.g 1) (.w 86) 5) (.p 0))
.panic
(.br (.lt (.get (.g 1) (.w 86) 5) (.p 11))
(.br (.lt (.get (.g 1) (.w 86) 6) (.p 0))
.panic
(.br (.lt (.get (.g 1) (.w 86) 6) (.p 11))
(.call 8 [.bool] anB 95
(.br (.s 95)
(.call 9 [.int .i64,.bool] (.cons Ql (.cons (.F .i64 (.get (.g 1) (.w 86) 3)) (.cons (.p 1048576) (.N (.g 7) .nil)))) 96
(.br (.s 97)
(.call 12 [.sl [ZA .u8] 5] sO 98
(.u (.N (.lq (.g 91) (.cons (.w 86) .nil)) (.N (.lq (.g 92) (.vs 10 76 .nil)) (.cons (.p 3) (.cons (.p 0) (.N (.g 98) PK)))))))
(.call 9 [.int .i64,.bool] (.cons Ql (.cons (.F .i64 (.get (.g 1) (.w 86) 3)) (.cons (.p 2097152) (.N (.g 89) .nil)))) 98
(.br (.s 99)
(.loop 2 100 [.int .i64,.int .u64,.list [ZA .u8],.list [ZA .u8]] Uk
(.br (.lt (.w 100) (.F .i64 (.get (.g 1) (.w 86) 3)))
(.br (.lt (.f .add .i64 (.w 98) (.w 100)) (.p 0))
.panic
(.br (.lt (.f .add .i64 (.w 98) (.w 100)) (.len (.g 102)))
(.next 2 (.cons (.f .add .i64 (.w 100) (.p 1)) (.cons (.f .shr .u64 (.w 101) (.p 8)) (.N (.lset (.g 102) (.f .add .i64 (.w 98) (.w 100)) 0 (.F .u8 (.f .and .u64 (.w 101) (.p 255)))) (.N (.g 103) .nil)))))
.panic))
(.call 11 (kF64) (.N (.g 7) (.N (.g 102) (.N (.g 103) (.N .ln .nil)))) 104
(.next 0 (.cons (.w 93) (.vs 10 12 (.vs 104 64 (.cons (.f .add .i64 (.w 86) (.p 1)) (.N (.g 87) (.N (.g 88) (.N (.g 102) (.N (.g 103) Qk))))))))))))
(.call 9 [.int .i64,.bool] (.cons Ql (.cons (.F .i64 (.get (.g 1) (.w 86) 3)) (.cons (.p 3145728) (.N (.g 90) .nil)))) 100
(.br (.s 101)
(.loop 2 102 [.int .i64,.int .u64,.list [ZA .u8],.list [ZA .u8]] Uk
(.br (.lt (.w 102) (.F .i64 (.get (.g 1) (.w 86) 3)))
(.br (.lt (.f .add .i64 (.w 100) (.w 102)) (.p 0))
.panic
(.br (.lt (.f .add .i64 (.w 100) (.w 102)) (.len (.g 105)))
(.next 2 (.cons (.f .add .i64 (.w 102) (.p 1)) (.cons (.f .shr .u64 (.w 103) (.p 8)) (.N (.g 104) (.N (.lset (.g 105) (.f .add .i64 (.w 100) (.w 102)) 0 (.F .u8 (.f .and .u64 (.w 103) (.p 255)))) .nil)))))
.panic))
(.call 11 (kF64) (.N (.g 7) (.N (.g 104) (.N (.g 105) (.N .ln .nil)))) 106
(.next 0 (.cons (.w 93) (.vs 10 12 (.vs 106 64 (.cons (.f .add .i64 (.w 86) (.p 1)) (.N (.g 87) (.N (.g 88) (.N (.g 104) (.N (.g 105) Qk))))))))))))
(.call 9 [.int .i64,.bool] (.cons Ql (.cons (.F .i64 (.get (.g 1) (.w 86) 3)) (.cons (.p 4194304) (.N .ln .nil)))) 102
(.br (.s 103)
(.loop 2 104 [.int .i64,.int .u64,.list [ZA .u8],.list [ZA .u8]] Uk
(.br (.lt (.w 104) (.F .i64 (.get (.g 1) (.w 86) 3)))
.panic
(.call 11 (kF64) (.N (.g 7) (.N (.g 106) (.N (.g 107) (.N .ln .nil)))) 108
(.next 0 (.cons (.w 93) (.vs 10 12 (.vs 108 64 (.cons (.f .add .i64 (.w 86) (.p 1)) (.N (.g 87) (.N (.g 88) (.N (.g 106) (.N (.g 107) Qk))))))))))))
(.call 12 [.sl [ZA .u8] 5] sO 104
(.u (.N (.lq (.g 91) (.cons (.w 86) .nil)) (.N (.lq (.g 92) (.vs 10 76 .nil)) (.cons (.p 3) (.cons (.p 0) (.N (.g 104) PK)))))))))))))))
(.call 12 [.sl [ZA .u8] 5] sO 96
(.u (.N (.lq (.g 91) (.cons (.w 86) .nil)) (.N (.lq (.g 92) (.vs 10 76 .nil)) (.cons (.p 3) (.cons (.p 0) (.N (.g 96) PK)))))))))
.panic))
.panic))
(.br (.eq (.get (.g 1) (.w 86) 0) (.p 3))
(.br (.lt (.get (.g 1) (.w 86) 5) (.p 0))
.panic
(.br (.lt (.get (.g 1) (.w 86) 5) (.p 11))
(.call 2 [.int .u64] (.vs 10 11 (.ins (.g 1) (.w 86) .nil)) 95
(.call 4 [.bool,.int .i64] (.cons (.get (.g 1) (.w 86) 1) (.cons (.p 64) anD)) 96
(.br (.s 96)
(.call 5 [.int .i64,.bool] (.cons (.w 86) (.ins (.g 1) (.w 86) .nil)) 98
(.next 0 (.cons (.w 93) (.vs 10 76 (.cons (.w 98) Um)))))
 anH)))
.panic))
(.br (.eq (.get (.g 1) (.w 86) 0) (.p 4))
(.call 5 [.int .i64,.bool] (.cons (.w 86) (.ins (.g 1) (.w 86) .nil)) 95
(.next 0 (.cons (.w 93) (.vs 10 76 (.cons (.w 95) Um)))))
(.br (.eq (.get (.g 1) (.w 86) 0) (.p 5))
(.br (.eq (.len (.g 87)) (.p 0))
(.call 12 [.sl [ZA .u8] 5] sO 95
(.u (.N (.lq (.g 91) (.cons (.w 86) .nil)) (.N (.lq (.g 92) (.vs 10 76 .nil)) (.cons (.p 2) anE)))))
(.br (.lt (.p 0) (.len (.g 87)))
(.br (.lt (.len (.g 87)) (.p 1))
.panic
(.loop 2 95 [.int .i64,.list [ZA .u64]] (.cons (.p 1) (.N .ln .nil))
(.call 6 [.int .i64] (.cons (.get (.g 1) (.w 86) 8) .nil) 97
(.br (.lt (.w 97) (.w 95))
(.br (.lt (.p 5) (.len (.g 96)))
(.stuck 220)
(.br (.lt (.len (.g 88)) (.p 1073741824))
(.next 0 (.cons (.w 93) (.cons (.get (.g 87) (.p 0) 0) (.zs [0,0,0,0,0] (.vs 16 5 (.cons (.f .andNot .i64 (.f .or .i64 (.f .andNot .i64 (.f .or .i64 (.f .andNot .i64 (.f .or .i64 (.f .andNot .i64 (.f .or .i64 (.f .andNot .i64 (.f .or .i64 (.f .or .i64 (.w 21) (.p 1)) (.p 2)) (.p 2)) (.p 4)) (.p 4)) (.p 8)) (.p 8)) (.p 16)) (.p 16)) (.p 32)) (.p 32)) (.vs 22 64 (.cons (.f .add .i64 (.w 86) (.p 1)) (.N (.ldrop (.g 87) (.p 1)) (.N (.lq (.g 88) (.cons (.get (.g 1) (.w 86) 8) (.cons (.get (.g 87) (.p 0) 0) (.cons (.len (.g 96)) (.cons (.get (.g 96) (.p 0) 0) (.cons (.get (.g 96) (.p 1) 0) (.cons (.get (.g 96) (.p 2) 0) (.cons (.get (.g 96) (.p 3) 0) (.cons (.get (.g 96) (.p 4) 0) .nil))))))))) anF))))))))))
.panic))
(.br (.lt (.w 95) (.p 0))
.panic
(.br (.lt (.w 95) (.p 11))
(.br (.lt (.len (.g 96)) (.p 1073741824))
(.next 2 (.cons (.f .add .i64 (.w 95) (.p 1)) (.N (.lq (.g 96) (.cons (.nth (.w 95) (.vs 10 11 .nil)) .nil)) .nil)))
.panic)
.panic))))))
.panic))
(.br (.eq (.get (.g 1) (.w 86) 0) (.p 6))
(.call 12 [.sl [ZA .u8] 5] sO 95
(.u (.N (.lq (.g 91) (.cons (.w 86) .nil)) (.N (.lq (.g 92) (.vs 10 76 .nil)) (.cons (.p 1) (.cons (.w 10) anC))))))
 anH)))))))
(.call 12 [.sl [ZA .u8] 5] sO 95
(.u (.N (.lq (.g 91) (.cons (.w 86) .nil)) (.N (.lq (.g 92) (.vs 10 76 .nil)) (.cons (.p 3) anE)))))))
.panic)))
.panic)
.panic)
(.call 12 [.sl [ZA .u8] 5] sO 93
(.u (.N (.g 91) (.N (.g 92) (.cons (.p 0) (.cons (.p 0) (.N (.g 93) (.N (.g 88) (.cons (.w 9) (.cons (.p 0) .nil)))))))))))))))))
 Ul)
(.u (.N .ln (.N .ln (.cons (.p 0) (.cons (.p 0) (.N .ln (.N .ln (.cons (.p 0) (.cons (.w 6) .nil)))))))))))
def agy:cg aey (FV 0 [c_jcheck,c_jreads,c_jsec,c_rbits,c_rhol,c_jtgt,c_jargs,c_jmread,c_jsd,c_jwith,c_jsame,c_jframe,c_jctx]) [(20,f20,[(999999,[]),(999998,[])],[]),(56,f56,[(999999,[]),(999998,[])],[]),(61,f61,[(6,[.tmpI 6 .i64,.cT 21 1 [ZA .u64] 39]++E3 [(30,18)]),(999999,[]),(999998,[])],[]),(19,f19,[(999999,[]),(999998,[])],[]),(52,f52,[(999999,[]),(999998,[])],[]),(58,f58,[(9,[.tmpI 12 .i64,.tmpI 3 .u64,.row 7,.row 8]++E3 [(28,15)]),(999999,[]),(999998,[])],[]),(99,f99,[(999999,[]),(999998,[])],[])] [(10,[.tmpI 3 .i64,.cels 10 3 (kN 77 23333333333333333333333333333333333333333333333333333333333333333211111111111),.celV 10 80 [ZA .u64] 39,.cT 10 81 Dn 178,.row 7,.row 8,.tmpS 15 [ZA .i64] 3,.tmpS 16 Mm 63]++E3 [(18,2),(48,27)]),(999999,[]),(999998,[])] [(14,[.tmpI 3 .i64]++E3 [(50,16)])] 200 f7 c_jsnaps.a c_jsnaps.r (tp c_jsnaps.r) (v_Prog [.list [ZA .u8],.list [ZA .u64],.int .i64]) pL:=E4 (by kernel_rfl)
def alb:c_jsnaps.Ok ZF:=
 GD (hl:=.inr (.inl ⟨(fun xs (h:jP xs) L hL=>by unfold jP at h;split at h<;>first|exact h.elim|(simp at hL;rcases hL with rfl|rfl|rfl;exact h.1.1;exact h.1.2;exact h.2)),rfl⟩)) pL (v_Prog [.list [ZA .u8],.list [ZA .u64],.int .i64]) aen (Am alf<|Am alc<|Am ato<|Am aqC<|Am atd<|Am am2<|Am ahW<|Am ald<|Am atp<|Am ahT<|Am ahU<|Am ale<|Am ats AI) func7 (Gw func20 (Gw func56 (Gw func61 (Gw func19 (Gw func52 (Gw func58 (Gw func99 EZ))))))) agy<|gX fun p hp=>fun cx PW an han fu hfu hp U g=>by
 simp only[c_jsnaps,jP,dN,apJ,b2i_one,aC,aj]at hp;have Aq:=g;simp only[dN,apJ,eB,QA,jZ,QB,AA,ZD]at g;simp (maxSteps:=9999999) only[pL,anI,anH,anG,Um,Ul,anF,Uk,Ql,Qk,anE,anD,anC,sO,PK,anB,c_jcheck,c_jreads,c_jsec,c_rbits,c_rhol,c_jtgt,c_jargs,c_jmread,c_jsd,c_jwith,c_jsame,c_jframe,c_jctx,c_jsnaps,jS,pU,yI,jQ,kH,kJ,jR,pV,dN,apJ,eB,QA,jZ,QB,Ai,ZH,ZD,-eq_self,aC,aj,g];obtain⟨k0_i0,La,M3,M4,RV⟩:=g;refine⟨?_,?_⟩
 .exact hp.1.1
 refine dg ?_;apply aI<;>intro c0;apply aI<;>intro c1;apply aI<;>intro c2
 .have e:Cm p cx an fu=_:=um (nN (Bs c0) (.inr (.inl (Ah c2)))) ST;have ej:cW p cx an fu=_:=mP (nN (Bs c0) (.inr (.inl (Ah c2)))) ST;rw[e,ej]
 apply aI<;>intro c3
 .have e:Cm p cx an fu=_:=um (nN (Bs c0) (.inr (.inr (Ah c3)))) ST;have ej:cW p cx an fu=_:=mP (nN (Bs c0) (.inr (.inr (Ah c3)))) ST;rw[e,ej]
 apply aI<;>intro c4
 .exact ai (Ah c4) (by have:=xm (Bs c0);have:=Bs c1;omega)
 refine⟨?_,?_⟩
 .first|exact Nat.zero_le _|exact dd (by have:=Ab c4;omega:cx.length<=256) ST
 intro e;have RZ:U.l 7=[]:=e;(try simp only[e,aC,aj,-eq_self]);clear e;refine⟨?_,?_⟩
 .first|exact Nat.zero_le _|exact dd (by have:=Ab c4;omega:cx.length<=256) ST
 refine dg ?_;have Aj:=Bs c0;have hf:0<=fu/\fu<=10000:=by have:=Ab c2;have:=Ab c3;omega
 have PW:cx.length<=256:=by have:=Ab c4;omega
 have hI:=cL hp.1.1 Aj;have Ad:kf p cx fu=0:=aha Aj (Bs c1) hf.1 hf.2;refine⟨WE p cx an fu,fun ds=>(dI ds 0).toNat,JAt.init hf.1 hI.1.2.1,?_⟩;intro U1 A0 hx1 Bc;obtain⟨_,z0,z1,z2,z3,z4,z5,z6,z7,z8,z9,MF,_⟩:=hx1;have hu:∀x∈[U1.i 10,U1.i 11,U1.i 12,U1.i 13,U1.i 14,U1.i 15,U1.i 16,U1.i 17,U1.i 18,U1.i 19,U1.i 20],Ae .u64 x=ZB:=by intro x hx;simp only[List.mem_cons,List.not_mem_nil,or_false]at hx;rcases hx with rfl|rfl|rfl|rfl|rfl|rfl|rfl|rfl|rfl|rfl|rfl<;>assumption
 clear z0 z1 z2 z3 z4 z5 z6 z7 z8 z9 MF;have hJ:JAt p cx an fu (U1.i 9) ⟨[U1.i 10,U1.i 11,U1.i 12,U1.i 13,U1.i 14,U1.i 15,U1.i 16,U1.i 17,U1.i 18,U1.i 19,U1.i 20],U1.i 21,U1.i 86,U1.l 87,U1.l 88,U1.l 89,U1.l 90⟩ (frI U1 22) (U1.l 91) (U1.l 92):=Bc;clear Bc;obtain⟨left,Eo⟩:∃z,U1.i 9=z:=⟨_,rfl⟩
 obtain⟨r0,D5⟩:∃z,U1.i 10=z:=⟨_,rfl⟩
 obtain⟨r1,D6⟩:∃z,U1.i 11=z:=⟨_,rfl⟩
 obtain⟨r2,Fc⟩:∃z,U1.i 12=z:=⟨_,rfl⟩
 obtain⟨r3,D7⟩:∃z,U1.i 13=z:=⟨_,rfl⟩
 obtain⟨r4,Fe⟩:∃z,U1.i 14=z:=⟨_,rfl⟩
 obtain⟨r5,Ff⟩:∃z,U1.i 15=z:=⟨_,rfl⟩
 obtain⟨r6,Fg⟩:∃z,U1.i 16=z:=⟨_,rfl⟩
 obtain⟨r7,IK⟩:∃z,U1.i 17=z:=⟨_,rfl⟩
 obtain⟨r8,IL⟩:∃z,U1.i 18=z:=⟨_,rfl⟩
 obtain⟨r9,IM⟩:∃z,U1.i 19=z:=⟨_,rfl⟩
 obtain⟨r10,IN⟩:∃z,U1.i 20=z:=⟨_,rfl⟩
 obtain⟨st,IP⟩:∃z,U1.i 21=z:=⟨_,rfl⟩
 obtain⟨pc,IQ⟩:∃z,U1.i 86=z:=⟨_,rfl⟩
 obtain⟨a1,IR⟩:∃z,U1.l 87=z:=⟨_,rfl⟩
 obtain⟨t1,IS⟩:∃z,U1.l 88=z:=⟨_,rfl⟩
 obtain⟨c1,IT⟩:∃z,U1.l 89=z:=⟨_,rfl⟩
 obtain⟨f1,IU⟩:∃z,U1.l 90=z:=⟨_,rfl⟩
 obtain⟨A1,IV⟩:∃z,U1.l 91=z:=⟨_,rfl⟩
 obtain⟨L1,IW⟩:∃z,U1.l 92=z:=⟨_,rfl⟩
 simp only[Eo,D5,D6,Fc,D7,Fe,Ff,Fg,IK,IL,IM,IN,IP,IQ,IR,IS,IT,IU,IV,IW]at hJ hu;have hR:=hJ.run;have Jj:=kL A0 La;have M5:=kL A0 RZ;have DT:c1.length<=256:=by have:=hR.cxl;exact dd (Nat.le_of_eq this) PW
 have q0:0<=pc:=hR.pc0;have q1:pc<(p.l.length:Int):=hR.pc1;have q2:f1.length=64:=hR.fm;have q4:(t1.length:Int)+left<=fu:=hR.tr;have q5:=hR.lo;have q6:=hR.hi;have q7:=hJ.la;have q8:=hJ.ll;simp only[Jj,M5,Eo,D5,D6,Fc,D7,Fe,Ff,Fg,IK,IL,IM,IN,IP,IQ,IR,IS,IT,IU,IV,IW,aj,-eq_self];apply aI<;>intro c5;apply aI<;>intro c6;apply aI<;>intro c7;refine⟨fun ds=>ds=[.z (Ac .sub .i64 left 1)],?_,?_⟩
 .rfl
 intro U2 Cf _ Gx;simp only[Be,LV,and_true]at Gx;have G8:=Gx;have Jm:=kL Cf Jj;have Jn:=kL Cf M5;have Jl:=kI Cf Eo;have GU:=kI Cf D5;have GV:=kI Cf D6;have GW:=kI Cf Fc;have GX:=kI Cf D7;have GY:=kI Cf Fe;have GZ:=kI Cf Ff;have G0:=kI Cf Fg;have G2:=kI Cf IK;have G3:=kI Cf IL;have G4:=kI Cf IM;have G5:=kI Cf IN;have G6:=kI Cf IP;have G7:=kI Cf IQ;have G9:=kL Cf IR;have Ha:=kL Cf IS;have Hb:=kL Cf IT;have Hc:=kL Cf IU;have Hd:=kL Cf IV;have He:=kL Cf IW;have Ec:=hJ.snap;rw[<-kr (v:=22) Cf ST]at Ec;simp only[Jm,Jn,Jl,GU,GV,GW,GX,GY,GZ,G0,G2,G3,G4,G5,G6,G7,G9,Ha,Hb,Hc,Hd,He,G8,aj,-eq_self];apply aI<;>intro c8
 .exact ai (Ah c8) Fn
 apply aI<;>intro c9;refine⟨?_,?_⟩
 .exact dx hp.1.1 Aj q0 q1
 refine dg ?_;apply aI<;>intro BF;apply aI<;>intro CF;apply aI<;>intro B9
 .have Bi:=dx hp.1.1 Aj q0 q1;have hd:=iV Bi;exact ai (Ah B9) Fn
 apply aI<;>intro Cr;refine⟨?_,?_⟩
 .exact fun _=>(by have hd:=cz (dx hp.1.1 Aj hR.pc0 hR.pc1);exact⟨hd.2.2.1,hd.2.2.2.1⟩)
 refine dg ?_;refine dg ?_
 .have Bi:=dx hp.1.1 Aj q0 q1;have hd:=iV Bi;have hk:(ab p.l pc).k=0:=Bs CF;have hw:Ac .andNot .i64 (bg (ab p.l pc)) st=0:=Bs BF;exact JAt.go hJ hp.1.1 Aj hf.2 (Ah c5) (qx hw (.inl hk)) (QX (au0 hk) hd.1 hd.2.1) rfl rfl (congrArg (fun s=>L1++[s]) Ec.symm) ((kr (v:=22) Cf ST).trans hJ.fr)
 .have Bi:=dx hp.1.1 Aj q0 q1;have hd:=iV Bi;exact ai (Ab Cr) Fn
 apply aI<;>intro CG;apply aI<;>intro C1
 .have Bi:=dx hp.1.1 Aj q0 q1;have hd:=iV Bi;exact ai (Ah C1) Fn
 apply aI<;>intro Dk;refine⟨?_,?_⟩
 .exact XL
 refine dg ?_;apply aI<;>intro Df;apply aI<;>intro Dg
 .have Bi:=dx hp.1.1 Aj q0 q1;have hd:=iV Bi;exact ai (Ah Dg) Fn
 apply aI<;>intro Dz
 .have Bi:=dx hp.1.1 Aj q0 q1;have hd:=iV Bi;have hk:(ab p.l pc).k=1:=Bs CG;have hw:Ac .andNot .i64 (bg (ab p.l pc)) st=0:=Bs BF;have h16:=Bs Df;exact JAt.go hJ hp.1.1 Aj hf.2 (Ah c5) (aif hw hk h16) (QX (auZ hk) hd.1 hd.2.1) rfl rfl (congrArg (fun s=>L1++[s]) Ec.symm) ((kr (v:=22) Cf ST).trans hJ.fr)
 .have Bi:=dx hp.1.1 Aj q0 q1;have hd:=iV Bi;exact ai (Ab Dz) Fn
 refine⟨?_,?_⟩
 .exact XL
 refine dg ?_
 .have hk:(ab p.l pc).k=1:=Bs CG;have hw:Ac .andNot .i64 (bg (ab p.l pc)) st=0:=Bs BF;have hh:=aqV (m:=⟨[r0,r1,r2,r3,r4,r5,r6,r7,r8,r9,r10],st,pc,a1,t1,c1,f1⟩) hw hk (Ch Df);have e:Cm p cx an fu=_:=mI Ad hR hf.2 (Ah c5) hh ST;have ej:=JAt.end Ad hJ (Ah c5) hh ST;rw[e,ej,Ec];rfl
 .have Bi:=dx hp.1.1 Aj q0 q1;have hd:=iV Bi;exact ai (Ab Dk) Fn
 apply aI<;>intro DA;apply aI<;>intro EM
 .have Bi:=dx hp.1.1 Aj q0 q1;have hd:=iV Bi;exact ai (Ah EM) Fn
 apply aI<;>intro FY;apply aI<;>intro GH
 .have Bi:=dx hp.1.1 Aj q0 q1;have hd:=iV Bi;exact ai (Ah GH) Fn
 apply aI<;>intro HA;refine dg ?_;apply aI<;>intro Gd;refine⟨?_,?_⟩
 .exact⟨XM,by decide⟩
 refine dg ?_;apply aI<;>intro Jx;refine⟨?_,?_⟩
 .exact XL
 refine dg ?_
 .exact ai Jx (by rw[ah3 (by have:=bR Gd;omega)];decide)
 refine⟨?_,?_⟩
 .exact⟨XM,dd DT ST⟩
 intro e;have Lb:=e.1;(try simp only[e,aC,aj,-eq_self]);clear e;apply aI<;>intro Io;have Bi:=dx hp.1.1 Aj q0 q1;have hd:=iV Bi;have hk:(ab p.l pc).k=2:=Bs DA;obtain⟨a,ea⟩:∃a,Ac .add .u64 (([r0,r1,r2,r3,r4,r5,r6,r7,r8,r9,r10]:List Int).getD (gt p.l pc 5).toNat 0) (ZG .u64 (gt p.l pc 7))=a:=⟨_,rfl⟩
 obtain⟨n,en⟩:∃n,ZG .i64 (gt p.l pc 3)=n:=⟨_,rfl⟩
 obtain⟨v,ev⟩:∃v,([r0,r1,r2,r3,r4,r5,r6,r7,r8,r9,r10]:List Int).getD (gt p.l pc 6).toNat 0=v:=⟨_,rfl⟩
 have hv:0<=v/\v<=18446744073709551615:=ev▸ab2 hu _;have hs:aR n=ZB:=en▸Gd;have ha:Ae .u64 a=ZB:=ea▸mQ _ _;have LA:=bR hs;have h1:1<=n:=Fn;have h8:n<=8:=Fn;have hq:∀k,n.toNat=k->k<=8:=fun k hk=>by omega
 simp only[ea,en]at Io Lb;have fr:inr 2097152 c1 a n=ZB:=Io;have W:=Win.of fr ha ST (dd DT ST) h1 h8;simp only[ea,en,ev,-eq_self];refine⟨fun ds=>∃k:Nat,ds=[.z (k:Int),.z (I6 v k),.l (putL c1 (a-2097152).toNat v k),.l f1]/\k<=n.toNat,fun ds=>n.toNat-(dI ds 0).toNat,⟨0,by rw[ar2];rfl,Nat.zero_le _⟩,?_⟩;intro U3 Bd _ Iz;obtain⟨k,Br,D3⟩:=Iz;simp only[Be,LV,and_true]at Br;obtain⟨Hf,Mf,Mi,Mj⟩:=Br;have HY:=kL Bd Jm;have HZ:=kL Bd Jn;have HX:=kI Bd Jl;have Fh:=kI Bd GU;have Fi:=kI Bd GV;have Fj:=kI Bd GW;have Fk:=kI Bd GX;have Fl:=kI Bd GY;have Fm:=kI Bd GZ;have Fo:=kI Bd G0;have Fp:=kI Bd G2;have Fq:=kI Bd G3;have Fs:=kI Bd G4;have Ft:=kI Bd G5;have Fu:=kI Bd G6;have Fv:=kI Bd G7;have Fy:=kL Bd G9;have FA:=kL Bd Ha;have FB:=kL Bd Hb;have FC:=kL Bd Hc;have FD:=kL Bd Hd;have FE:=kL Bd He;have Fx:=kI Bd G8;have OY:U3.i 98=a-2097152:=(kI Bd Lb).trans (rA fr h1);have HJ:=Ec;rw[<-kr (v:=22) Bd ST]at HJ;simp only[HY,HZ,HX,Fh,Fi,Fj,Fk,Fl,Fm,Fo,Fp,Fq,Fs,Ft,Fu,Fv,Fy,FA,FB,FC,FD,FE,Fx,Hf,Mf,Mi,Mj,OY,ea,en,ev,-eq_self];apply aI<;>intro I9;apply aI<;>intro J9
 .have Gi:k<n.toNat:=by have:=Ah I9;omega
  have w1:=W.lo;have w2:=W.hi;rw[(W.byte (dd DT ST) Gi).1]at J9;exact ai (Ah J9) Fn
 apply aI<;>intro Ka
 .have Gi:k<n.toNat:=by have:=Ah I9;omega
  rw[Sj W (dd DT ST) hv.1 hv.2 Gi,ar1 hv.1 hv.2,Qp Gi (dd (by omega:n.toNat<=8) ST)];exact⟨⟨k+1,rfl,Gi⟩,by show n.toNat-(((k+1:Nat):Int)).toNat<n.toNat-((k:Int)).toNat;omega⟩
 .have Gi:k<n.toNat:=by have:=Ah I9;omega
  have w1:=W.lo;have w2:=W.hi;rw[(W.byte (dd DT ST) Gi).1,fL]at Ka;exact ai (Ab Ka) Fn
 refine⟨?_,?_⟩
 .exact⟨rfl,by rw[fL];exact DT,q2,rfl⟩
 refine dg ?_
 .have hk:(ab p.l pc).k=2:=Bs DA;have hw:Ac .andNot .i64 (bg (ab p.l pc)) st=0:=Bs BF;obtain rfl:k=n.toNat:=by have:=Ab I9;omega
  have g2:inr 3145728 f1 a n=ZC:=by have:=W.hi;have:=W.lo;unfold inr;rw[ff Fn];rfl
  have eC:LD ⟨[r0,r1,r2,r3,r4,r5,r6,r7,r8,r9,r10],st,pc,a1,t1,c1,f1⟩ a n v=putL c1 (a-2097152).toNat v n.toNat:=ae fr;have eF:Jt ⟨[r0,r1,r2,r3,r4,r5,r6,r7,r8,r9,r10],st,pc,a1,t1,c1,f1⟩ a n v=f1:=aa (by rw[g2];decide);have eO:EY ⟨[r0,r1,r2,r3,r4,r5,r6,r7,r8,r9,r10],st,pc,a1,t1,c1,f1⟩ a n=ZB:=by unfold EY;rw[show inr 2097152 c1 a n=ZB from fr];rfl
  exact JAt.go hJ hp.1.1 Aj hf.2 (Ah c5) (zq hw hk ea en eO) (by rw[asD (m:=⟨[r0,r1,r2,r3,r4,r5,r6,r7,r8,r9,r10],st,pc,a1,t1,c1,f1⟩) hk ea en ev,eC,eF];rfl) rfl rfl (congrArg (fun s=>L1++[s]) HJ.symm) (ais q2)
 refine⟨?_,?_⟩
 .exact⟨XM,by rw[q2];decide⟩
 intro e;have Jk:=e.1;(try simp only[e,aC,aj,-eq_self]);clear e;apply aI<;>intro Kb;have Bi:=dx hp.1.1 Aj q0 q1;have hd:=iV Bi;have hk:(ab p.l pc).k=2:=Bs DA;obtain⟨a,ea⟩:∃a,Ac .add .u64 (([r0,r1,r2,r3,r4,r5,r6,r7,r8,r9,r10]:List Int).getD (gt p.l pc 5).toNat 0) (ZG .u64 (gt p.l pc 7))=a:=⟨_,rfl⟩
 obtain⟨n,en⟩:∃n,ZG .i64 (gt p.l pc 3)=n:=⟨_,rfl⟩
 obtain⟨v,ev⟩:∃v,([r0,r1,r2,r3,r4,r5,r6,r7,r8,r9,r10]:List Int).getD (gt p.l pc 6).toNat 0=v:=⟨_,rfl⟩
 have hv:0<=v/\v<=18446744073709551615:=ev▸ab2 hu _;have hs:aR n=ZB:=en▸Gd;have ha:Ae .u64 a=ZB:=ea▸mQ _ _;have LA:=bR hs;have h1:1<=n:=Fn;have h8:n<=8:=Fn;have hq:∀k,n.toNat=k->k<=8:=fun k hk=>by omega
 simp only[ea,en]at Io Kb Jk;have fr:inr 3145728 f1 a n=ZB:=Kb;have W:=Win.of fr ha ST (by rw[q2];decide) h1 h8;simp only[ea,en,ev,-eq_self];refine⟨fun ds=>∃k:Nat,ds=[.z (k:Int),.z (I6 v k),.l c1,.l (putL f1 (a-3145728).toNat v k)]/\k<=n.toNat,fun ds=>n.toNat-(dI ds 0).toNat,⟨0,by rw[ar2];rfl,Nat.zero_le _⟩,?_⟩;intro U3 Bd _ Iz;obtain⟨k,Br,D3⟩:=Iz;simp only[Be,LV,and_true]at Br;obtain⟨Mg,Mh,Mk,Ml⟩:=Br;have HY:=kL Bd Jm;have HZ:=kL Bd Jn;have HX:=kI Bd Jl;have Fh:=kI Bd GU;have Fi:=kI Bd GV;have Fj:=kI Bd GW;have Fk:=kI Bd GX;have Fl:=kI Bd GY;have Fm:=kI Bd GZ;have Fo:=kI Bd G0;have Fp:=kI Bd G2;have Fq:=kI Bd G3;have Fs:=kI Bd G4;have Ft:=kI Bd G5;have Fu:=kI Bd G6;have Fv:=kI Bd G7;have Fy:=kL Bd G9;have FA:=kL Bd Ha;have FB:=kL Bd Hb;have FC:=kL Bd Hc;have FD:=kL Bd Hd;have FE:=kL Bd He;have Fx:=kI Bd G8;have Hf:U3.i 100=a-3145728:=(kI Bd Jk).trans (rA fr h1);have HJ:=Ec;rw[<-kr (v:=22) Bd ST]at HJ;simp only[HY,HZ,HX,Fh,Fi,Fj,Fk,Fl,Fm,Fo,Fp,Fq,Fs,Ft,Fu,Fv,Fy,FA,FB,FC,FD,FE,Fx,Mg,Mh,Mk,Ml,Hf,ea,en,ev,-eq_self];apply aI<;>intro Jy;apply aI<;>intro KD
 .have Gi:k<n.toNat:=by have:=Ah Jy;omega
  have w1:=W.lo;have w2:=W.hi;rw[(W.byte (by rw[q2];decide) Gi).1]at KD;exact ai (Ah KD) Fn
 apply aI<;>intro KE
 .have Gi:k<n.toNat:=by have:=Ah Jy;omega
  rw[Sj W (by rw[q2];decide) hv.1 hv.2 Gi,ar1 hv.1 hv.2,Qp Gi (dd (by omega:n.toNat<=8) ST)];exact⟨⟨k+1,rfl,Gi⟩,by show n.toNat-(((k+1:Nat):Int)).toNat<n.toNat-((k:Int)).toNat;omega⟩
 .have Gi:k<n.toNat:=by have:=Ah Jy;omega
  have w1:=W.lo;have w2:=W.hi;rw[(W.byte (by rw[q2];decide) Gi).1,fL]at KE;exact ai (Ab KE) Fn
 refine⟨?_,?_⟩
 .exact⟨rfl,DT,by rw[fL];exact q2,rfl⟩
 refine dg ?_
 .have hk:(ab p.l pc).k=2:=Bs DA;have hw:Ac .andNot .i64 (bg (ab p.l pc)) st=0:=Bs BF;obtain rfl:k=n.toNat:=by have:=Ab Jy;omega
  have g1:inr 2097152 c1 a n=ZC:=Io;have eC:LD ⟨[r0,r1,r2,r3,r4,r5,r6,r7,r8,r9,r10],st,pc,a1,t1,c1,f1⟩ a n v=c1:=aa (by rw[g1];decide);have eF:Jt ⟨[r0,r1,r2,r3,r4,r5,r6,r7,r8,r9,r10],st,pc,a1,t1,c1,f1⟩ a n v=putL f1 (a-3145728).toNat v n.toNat:=ae fr;have eO:EY ⟨[r0,r1,r2,r3,r4,r5,r6,r7,r8,r9,r10],st,pc,a1,t1,c1,f1⟩ a n=ZB:=by unfold EY;rw[show inr 3145728 f1 a n=ZB from fr,Bool.or_true]
  exact JAt.go hJ hp.1.1 Aj hf.2 (Ah c5) (zq hw hk ea en eO) (by rw[asD (m:=⟨[r0,r1,r2,r3,r4,r5,r6,r7,r8,r9,r10],st,pc,a1,t1,c1,f1⟩) hk ea en ev,eC,eF];rfl) rfl rfl (congrArg (fun s=>L1++[s]) HJ.symm) (ais (by rw[fL];exact q2))
 refine⟨?_,?_⟩
 .exact⟨XM,by decide⟩
 refine dg ?_;apply aI<;>intro Ls;refine⟨fun _=>False,fun _=>0,ai Ls (by rw[ah3 (by have:=bR Gd;omega)];decide),?_⟩;intro U3 Bd _ hif;apply aI<;>intro LP
 .exact hif.elim
 refine⟨?_,?_⟩
 .exact hif.elim
 refine dg ?_
 .exact hif.elim
 refine⟨?_,?_⟩
 .exact XL
 refine dg ?_
 .have hk:(ab p.l pc).k=2:=Bs DA;have hw:Ac .andNot .i64 (bg (ab p.l pc)) st=0:=Bs BF;have eO:EY (⟨[r0,r1,r2,r3,r4,r5,r6,r7,r8,r9,r10],st,pc,a1,t1,c1,f1⟩:Ms) (FX ((⟨[r0,r1,r2,r3,r4,r5,r6,r7,r8,r9,r10],st,pc,a1,t1,c1,f1⟩:Ms).r (ab p.l pc).d) (ab p.l pc).off) (ZG .i64 (ab p.l pc).sz)=ZC:=by unfold EY;rw[show inr 2097152 c1 (FX ((⟨[r0,r1,r2,r3,r4,r5,r6,r7,r8,r9,r10],st,pc,a1,t1,c1,f1⟩:Ms).r (ab p.l pc).d) (ab p.l pc).off) (ZG .i64 (ab p.l pc).sz)=ZC from Io,show inr 3145728 f1 (FX ((⟨[r0,r1,r2,r3,r4,r5,r6,r7,r8,r9,r10],st,pc,a1,t1,c1,f1⟩:Ms).r (ab p.l pc).d) (ab p.l pc).off) (ZG .i64 (ab p.l pc).sz)=ZC from Kb];rfl
  have hh:=aqU (m:=⟨[r0,r1,r2,r3,r4,r5,r6,r7,r8,r9,r10],st,pc,a1,t1,c1,f1⟩) hw hk rfl rfl eO;have e:Cm p cx an fu=_:=mI Ad hR hf.2 (Ah c5) hh ST;have ej:=JAt.end Ad hJ (Ah c5) hh ST;rw[e,ej,Ec];rfl
 refine⟨?_,?_⟩
 .exact XL
 refine dg ?_
 .have Bi:=dx hp.1.1 Aj q0 q1;have hd:=iV Bi;have hk:(ab p.l pc).k=2:=Bs DA;have hw:Ac .andNot .i64 (bg (ab p.l pc)) st=0:=Bs BF;exact ai (acR Bi (.inr hk)) (by rw[show aR (ZG .i64 (ab p.l pc).sz)=ZC from Gd];decide)
 .have Bi:=dx hp.1.1 Aj q0 q1;have hd:=iV Bi;exact ai (Ab HA) Fn
 .have Bi:=dx hp.1.1 Aj q0 q1;have hd:=iV Bi;exact ai (Ab FY) Fn
 apply aI<;>intro Kc;apply aI<;>intro Lt
 .have Bi:=dx hp.1.1 Aj q0 q1;have hd:=iV Bi;exact ai (Ah Lt) Fn
 apply aI<;>intro Lu;refine⟨?_,?_⟩
 .exact fun _=>(by have hd:=cz (dx hp.1.1 Aj hR.pc0 hR.pc1);exact⟨hd.2.2.1,hd.2.2.2.1⟩)
 refine dg ?_;refine dg ?_;apply aI<;>intro KF;refine dg ?_
 .have hk:(ab p.l pc).k=3:=Bs Kc;have hw:Ac .andNot .i64 (bg (ab p.l pc)) st=0:=Bs BF;exact JAt.go hJ hp.1.1 Aj hf.2 (Ah c5) (qx hw (.inr (.inl hk))) ((asA (m:=⟨[r0,r1,r2,r3,r4,r5,r6,r7,r8,r9,r10],st,pc,a1,t1,c1,f1⟩) hk KF).symm) rfl rfl (congrArg (fun s=>L1++[s]) Ec.symm) ((kr (v:=22) Cf ST).trans hJ.fr)
 .have hk:(ab p.l pc).k=3:=Bs Kc;have hw:Ac .andNot .i64 (bg (ab p.l pc)) st=0:=Bs BF;exact JAt.go hJ hp.1.1 Aj hf.2 (Ah c5) (qx hw (.inr (.inl hk))) ((asB (m:=⟨[r0,r1,r2,r3,r4,r5,r6,r7,r8,r9,r10],st,pc,a1,t1,c1,f1⟩) hk KF).symm) rfl rfl (congrArg (fun s=>L1++[s]) Ec.symm) ((kr (v:=22) Cf ST).trans hJ.fr)
 .have Bi:=dx hp.1.1 Aj q0 q1;have hd:=iV Bi;exact ai (Ab Lu) Fn
 apply aI<;>intro KG;refine dg ?_
 .have hk:(ab p.l pc).k=4:=Bs KG;have hw:Ac .andNot .i64 (bg (ab p.l pc)) st=0:=Bs BF;exact JAt.go hJ hp.1.1 Aj hf.2 (Ah c5) (qx hw (.inr (.inr hk))) ((auY (m:=⟨[r0,r1,r2,r3,r4,r5,r6,r7,r8,r9,r10],st,pc,a1,t1,c1,f1⟩) hk).symm) rfl rfl (congrArg (fun s=>L1++[s]) Ec.symm) ((kr (v:=22) Cf ST).trans hJ.fr)
 apply aI<;>intro Kd;apply aI<;>intro Jz;refine⟨?_,?_⟩
 .exact XL
 refine dg ?_
 .have hk:(ab p.l pc).k=5:=Bs Kd;have hw:Ac .andNot .i64 (bg (ab p.l pc)) st=0:=Bs BF;have hh:=aig (m:=⟨[r0,r1,r2,r3,r4,r5,r6,r7,r8,r9,r10],st,pc,a1,t1,c1,f1⟩) hw hk (show a1.length=0 by have:=Bs Jz;omega);have e:Cm p cx an fu=_:=mI Ad hR hf.2 (Ah c5) hh ST;have ej:=JAt.end Ad hJ (Ah c5) hh ST;rw[e,ej,Ec];rfl
 apply aI<;>intro Lv;apply aI<;>intro Ke
 .exact ai (Ah Ke) (by have:=Ch Jz;omega)
 have Bi:=dx hp.1.1 Aj q0 q1;have hd:=iV Bi;have hk:(ab p.l pc).k=5:=Bs Kd;have hw:Ac .andNot .i64 (bg (ab p.l pc)) st=0:=Bs BF;refine⟨fun ds=>∃k:Nat,ds=[.z ((k:Int)+1),.l (CU [r0,r1,r2,r3,r4,r5,r6,r7,r8,r9,r10] (k:Int))]/\(k:Int)<=fO (gt p.l pc 8),fun ds=>7-(dI ds 0).toNat,⟨0,by rw[auj];rfl,(fN _).1⟩,?_⟩;intro U3 Bd _ Iz;obtain⟨k,Br,D3⟩:=Iz;simp only[Be,LV,and_true]at Br;obtain⟨OX,OZ⟩:=Br;have HY:=kL Bd Jm;have HZ:=kL Bd Jn;have HX:=kI Bd Jl;have Fh:=kI Bd GU;have Fi:=kI Bd GV;have Fj:=kI Bd GW;have Fk:=kI Bd GX;have Fl:=kI Bd GY;have Fm:=kI Bd GZ;have Fo:=kI Bd G0;have Fp:=kI Bd G2;have Fq:=kI Bd G3;have Fs:=kI Bd G4;have Ft:=kI Bd G5;have Fu:=kI Bd G6;have Fv:=kI Bd G7;have Fy:=kL Bd G9;have FA:=kL Bd Ha;have FB:=kL Bd Hb;have FC:=kL Bd Hc;have FD:=kL Bd Hd;have FE:=kL Bd He;have Fx:=kI Bd G8;have HJ:=Ec;rw[<-kr (v:=22) Bd ST]at HJ;have hb5:=(fN (gt p.l pc 8)).2;have hA5:=alT (rg:=[r0,r1,r2,r3,r4,r5,r6,r7,r8,r9,r10]) (k:=k) Fn;simp only[HY,HZ,HX,Fh,Fi,Fj,Fk,Fl,Fm,Fo,Fp,Fq,Fs,Ft,Fu,Fv,Fy,FA,FB,FC,FD,FE,Fx,OX,OZ,-eq_self];refine dg ?_;apply aI<;>intro HB;apply aI<;>intro Kf
 .exact ai (Ah Kf) (by have q:=Ah HB;omega)
 apply aI<;>intro Kg
 .have hk9:(k:Int)=fO (ab p.l pc).imm:=by have:=Ah HB;show(k:Int)=fO (gt p.l pc 8);omega
  exact JAt.go hJ hp.1.1 Aj hf.2 (Ah c5) (aih hw hk (show a1.length≠0 by have:=Ch Jz;omega)) (asz (m:=⟨[r0,r1,r2,r3,r4,r5,r6,r7,r8,r9,r10],st,pc,a1,t1,c1,f1⟩) hk hk9 rfl) rfl rfl (congrArg (fun s=>L1++[s]) HJ.symm) ((kr (v:=22) Bd ST).trans ((kr (v:=22) Cf ST).trans hJ.fr))
 .exact ai (Ab Kg) (by have:=Ah c5;omega)
 apply aI<;>intro Kh
 .exact ai (Ah Kh) (by have q:=Ab HB;omega)
 apply aI<;>intro Ki;apply aI<;>intro Kj
 .have q:=Ab HB;have UU:k=0\/k=1\/k=2\/k=3\/k=4:=Fn;refine⟨⟨k+1,?_,by omega⟩,?_⟩
  .rcases UU with rfl|rfl|rfl|rfl|rfl<;>rfl
  .show 7-(Ac .add .i64 ((k:Int)+1) 1).toNat<7-((k:Int)+1).toNat;rcases UU with rfl|rfl|rfl|rfl|rfl<;>decide
 .exact ai (Ab Kj) (by have q:=Ab HB;omega)
 .exact ai (Ab Ki) (by have q:=Ab HB;omega)
 .exact ai (Ab Lv) (by have:=Ch Jz;omega)
 apply aI<;>intro JA;refine⟨?_,?_⟩
 .exact XL
 refine dg ?_
 .have hk:(ab p.l pc).k=6:=Bs JA;have hw:Ac .andNot .i64 (bg (ab p.l pc)) st=0:=Bs BF;have hh:=am9 (m:=⟨[r0,r1,r2,r3,r4,r5,r6,r7,r8,r9,r10],st,pc,a1,t1,c1,f1⟩) hw hk;have e:Cm p cx an fu=_:=mI Ad hR hf.2 (Ah c5) hh ST;have ej:=JAt.end Ad hJ (Ah c5) hh ST;rw[e,ej,Ec];rfl
 .have Bi:=dx hp.1.1 Aj q0 q1;have hd:=iV Bi;have n0:=Ch CF;have n1:=Ch CG;have n2:=Ch DA;have n3:=Ch Kc;have n4:=Ch KG;have n5:=Ch Kd;have n6:=Ch JA;exact ai hd.2.2.2.2.2.2.2 Fn
 refine⟨?_,?_⟩
 .exact XL
 refine dg ?_
 .have hh:=atD (m:=⟨[r0,r1,r2,r3,r4,r5,r6,r7,r8,r9,r10],st,pc,a1,t1,c1,f1⟩) (Ch BF);have e:Cm p cx an fu=_:=mI Ad hR hf.2 (Ah c5) hh ST;have ej:=JAt.end Ad hJ (Ah c5) hh ST;rw[e,ej,Ec];rfl
 .exact ai q1 (Ab c9)
 .exact ai (show(L1.length:Int)<1073741824 by omega) (Ab c7)
 .exact ai (show(A1.length:Int)<1073741824 by omega) (Ab c6)
 refine⟨?_,?_⟩
 .exact XL
 refine dg ?_
 .have e:Cm p cx an fu=_:=akL Ad hR (Ab c5);have ej:=JAt.out Ad hJ (Ab c5);rw[e,ej]
 .have e:Cm p cx an fu=_:=um (nN (Bs c0) (.inl (Ch c1))) ST;have ej:cW p cx an fu=_:=mP (nN (Bs c0) (.inl (Ch c1))) ST;rw[e,ej]
 .have e:Cm p cx an fu=_:=um (abv (Ch c0)) (Ch c0);have ej:cW p cx an fu=_:=mP (abv (Ch c0)) (Ch c0);rw[e,ej]
def wT(k:q2)(h:p->q=q2:=by intro e;(try simp only[e,Kn.eta,Pi.eta,Pu.eta,Rg.eta,Sc.eta,Sc.eta_r,Sc.eta_k,Sc.eta_2,-eq_self]);rfl):p->q:=fun e=>(h e).symm▸k
def aoJ:List (Nat×TI):=[(2,CC),
 (39,fe),
 (46,ic),
 (48,jr),
 (50,PI)]
def vh:∀t i,(t,i)∈aoJ->TIok ZF t i:=bl B1 B1 (by kernel_rfl)
def c_wmay:Cd:=⟨102,[.agg kSc],[.one .bool],rd_Sc fun a _=>[.z (AD (Bf a))],T0⟩
def afE:Tr:=
(.call 0 [.bool] (.vs 0 4 .nil) 6
(.br (.s 6)
(.call 1 [.bool] (.vs 4 2 .nil) 7
(.u (.j (.s 7) .nil)))
 zlF))
def amS:c_wmay.Ok ZF:=
 AU afE (v_Sc []) vh (Am amV<|Am amW AI) func102<|dy fun a ha hp U g=>by
 simp only[AP,AJ,AM,AA,ZD]at g;simp only[afE,c_rmay,c_qmay,c_wmay,AP,AJ,AM,Ai,ZH,ZD,-eq_self,Kn.eta,Pi.eta,Pu.eta,Rg.eta,Sc.eta,Sc.eta_r,Sc.eta_k,Sc.eta_2,g];refine wT ?_;apply aI<;>intro c0;refine wT ?_
 .exact YH
 .exact YH
def c_whas:Cd:=⟨66,[.agg kSc,.one (.int .u64)],[.one .bool],rd_Sc fun a=>rdZ fun v _=>[.z (AD (A3 a v))],T0⟩
def afF:Tr:=
(.call 0 [.bool] (.vs 0 6 .nil) 7
(.br (.s 7)
(.call 1 [.bool] (.vs 0 4 (.cons (.w 6) .nil)) 8
(.br (.s 8)
(.call 2 [.bool] (.vs 4 3 .nil) 9
(.u (.j (.s 9) .nil)))
 zlF))
 zlF))
def asY:c_whas.Ok ZF:=
 AU afF (v_Sc [.int .u64]) vh (Am amS<|Am ate<|Am atf AI) func66<|dy fun a ha=>fun v hv hp U g=>by
 simp only[AP,AJ,AM,AA,ZD]at g;simp only[afF,c_wmay,c_rhas,c_qhas,c_whas,AP,AJ,AM,Ai,ZH,ZD,-eq_self,Kn.eta,Pi.eta,Pu.eta,Rg.eta,Sc.eta,Sc.eta_r,Sc.eta_k,Sc.eta_2,g];refine wT ?_
 .repeat' first|apply aI<;>intro c|refine wT ?_|exact Ya
def aK(k:q2)(h:p->q=q2:=by intro e;(try simp only[e,bK,-eq_self]);rfl):p->q:=fun e=>(h e).symm▸k
def aev:List (Nat×TI):=[(2,CC),
 (3,CZ),
 (5,Lk),
 (38,fY),
 (39,fe),
 (46,ic),
 (48,jr),
 (50,eU),
 (52,rh),
 (53,rb),
 (54,ra),
 (56,vo),
 (60,Qs),
 (61,Qr),
 (63,Qq)]
def mg:∀t i,(t,i)∈aev->TIok ZF t i:=bl (DS (z:=Ev) ⟨ru,lx⟩<|DS (z:=Dw) ⟨rt,lw⟩ B1) B1 (by kernel_rfl)
def c_ytok:Cd:=⟨65,[.agg kTy],[.one .bool],rd_Ty fun t _=>[.z (AD (Bh t))],T0⟩
def anA:Tr:=(.br (.lt (.w 8) (.w 7))
 zlF
(.br (.lt (.w 7) (.p (-1048576)))
 zlF
(.br (.lt (.p 1048576) (.w 8))
 zlF
(.u (.j (.and (.eq (.w 1) (.p 0)) (.and (.eq (.w 2) (.p 0)) (.and (.eq (.w 3) (.p 0)) (.and (.eq (.w 4) (.p 0)) (.and (.eq (.w 5) (.p 0)) (.and (.eq (.w 6) (.p 0)) (.tt ZB))))))) .nil)))))
def afC:Tr:=
(.br (.eq (.w 0) (.p 0))
(.u (.j (.and (.eq (.w 0) (.p 0)) (.and (.eq (.w 1) (.p 0)) (.and (.eq (.w 2) (.p 0)) (.and (.eq (.w 3) (.p 0)) (.and (.eq (.w 4) (.p 0)) (.and (.eq (.w 5) (.p 0)) (.and (.eq (.w 6) (.p 0)) (.and (.eq (.w 7) (.p 0)) (.and (.eq (.w 8) (.p 0)) (.tt ZB)))))))))) .nil))
(.br (.eq (.w 0) (.p 1))
(.call 0 [.bool] (.vs 1 6 .nil) 9
(.br (.s 9)
(.br (.eq (.w 7) (.p 0))
(.u (.j (.eq (.w 8) (.p 0)) .nil))
 zlF)
 zlF))
(.br (.eq (.w 0) (.p 2))
 anA
(.br (.eq (.w 0) (.p 3))
 anA
 zlF))))
def amR:c_ytok.Ok ZF:=
 AU afC (v_Ty []) mg (Am amS AI) func65<|bL fun t ht hp U g=>by
 simp only[AE,AP,AA,ZD]at g;simp only[afC,anA,c_wmay,c_ytok,AE,AP,Ai,ZH,ZD,-eq_self,bK,g]
 .repeat' first|apply aI<;>intro c|refine aK ?_|exact Id
def c_ymay:Cd:=⟨25,[.agg kSta],[.one .bool],rd_Sta fun s _=>[.z (AD (Az s))],T0⟩
def afD:Tr:=
(.call 0 [.bool] (.vs 0 9 .nil) 171
(.br (.s 171)
(.call 0 [.bool] (.vs 9 9 .nil) 172
(.br (.s 172)
(.call 0 [.bool] (.vs 18 9 .nil) 173
(.br (.s 173)
(.call 0 [.bool] (.vs 27 9 .nil) 174
(.br (.s 174)
(.call 0 [.bool] (.vs 36 9 .nil) 175
(.br (.s 175)
(.call 0 [.bool] (.vs 45 9 .nil) 176
(.br (.s 176)
(.call 0 [.bool] (.vs 54 9 .nil) 177
(.br (.s 177)
(.call 0 [.bool] (.vs 63 9 .nil) 178
(.br (.s 178)
(.call 0 [.bool] (.vs 72 9 .nil) 179
(.br (.s 179)
(.call 0 [.bool] (.vs 81 9 .nil) 180
(.br (.s 180)
(.call 0 [.bool] (.vs 90 9 .nil) 181
(.br (.s 181)
(.call 0 [.bool] (.vs 99 9 .nil) 182
(.br (.s 182)
(.br (.eq (.w 99) (.p 0))
 zlF
(.call 0 [.bool] (.vs 108 9 .nil) 183
(.br (.s 183)
(.br (.eq (.w 108) (.p 0))
 zlF
(.call 0 [.bool] (.vs 117 9 .nil) 184
(.br (.s 184)
(.br (.eq (.w 117) (.p 0))
 zlF
(.call 0 [.bool] (.vs 126 9 .nil) 185
(.br (.s 185)
(.br (.eq (.w 126) (.p 0))
 zlF
(.call 0 [.bool] (.vs 135 9 .nil) 186
(.br (.s 186)
(.br (.eq (.w 135) (.p 0))
 zlF
(.call 0 [.bool] (.vs 144 9 .nil) 187
(.br (.s 187)
(.br (.eq (.w 144) (.p 0))
 zlF
(.call 0 [.bool] (.vs 153 9 .nil) 188
(.br (.s 188)
(.br (.eq (.w 153) (.p 0))
 zlF
(.call 0 [.bool] (.vs 162 9 .nil) 189
(.br (.s 189)
(.br (.eq (.w 162) (.p 0))
 zlF
 zlT)
 zlF)))
 zlF)))
 zlF)))
 zlF)))
 zlF)))
 zlF)))
 zlF)))
 zlF))
 zlF))
 zlF))
 zlF))
 zlF))
 zlF))
 zlF))
 zlF))
 zlF))
 zlF))
 zlF))
 zlF))
def asW:c_ymay.Ok ZF:=
 AU afD (v_Sta []) mg (Am amR AI) func25<|dX fun s hs hp U g=>by
 simp only[c_ymay,bY,fz,rdZ,rdB,rdL];simp only[cd,AE,AA,ZD]at g;simp(maxSteps:=10000000) only[afD,Kx,c_ytok,rdZ,rdB,rdL,c_ymay,cd,AE,Ai,ZH,ZD,-eq_self,bK,g];refine aK ?_
 .repeat' first|apply aI<;>intro c|refine aK ?_|exact Os
def c_yhold:Cd:=⟨26,[.agg kTy,.one (.int .u64)],[.one .bool],rd_Ty fun t=>rdZ fun v _=>[.z (AD (aU t v))],T0⟩
def anx:E:=(.F .i64 (.f .sub .u64 (.w 9) (.p 3145728)))
def anz:E:=(.F .i64 (.f .sub .u64 (.w 9) (.p 2097152)))
def aaH:Tr:=
(.call 0 [.bool] (.vs 0 9 .nil) 10
(.br (.s 10)
(.br (.eq (.w 0) (.p 0))
 zlT
(.br (.eq (.w 0) (.p 1))
(.call 1 [.bool] (.vs 1 6 (.cons (.w 9) .nil)) 11
(.u (.j (.s 11) .nil)))
(.br (.eq (.w 0) (.p 2))
(.br (.lt anz (.w 7))
 zlF
(.u (.j (.not (.lt (.w 8) anz)) .nil)))
(.br (.lt anx (.w 7))
 zlF
(.u (.j (.not (.lt (.w 8) anx)) .nil))))))
 zlF))
def aql:c_yhold.Ok ZF:=
 AU aaH (v_Ty [.int .u64]) mg (Am amR<|Am asY AI) func26<|bL fun t ht=>fun v hv hp U g=>by
 simp only[AE,AP,AA,ZD]at g;simp only[aaH,anz,anx,c_ytok,c_whas,c_yhold,AE,AP,Ai,ZH,ZD,-eq_self,bK,g];refine aK ?_;apply aI<;>intro c0;apply aI<;>intro c1
 .rw[yf c0 (A4 c1)];try rfl
 apply aI<;>intro c2;refine aK ?_
 .rw[nq c0 (A4 c2)];try rfl
 apply aI<;>intro c3;apply aI<;>intro c4
 .simp only[Ac]at c4 ⊢;rw[tB c0 (A4 c3),uy c4];try rfl
 .simp only[Ac]at c4 ⊢;rw[tB c0 (A4 c3),oS c4];try rfl
 apply aI<;>intro c5
 .have hk:t.k=3:=(by rcases fX c0 with h|h|h|h<;>first|exact h|(rw[h]at c1 c2 c3;simp at c1 c2 c3))
  simp only[Ac]at c5 ⊢;rw[tA c0 hk,uy c5];try rfl
 .have hk:t.k=3:=(by rcases fX c0 with h|h|h|h<;>first|exact h|(rw[h]at c1 c2 c3;simp at c1 c2 c3))
  simp only[Ac]at c5 ⊢;rw[tA c0 hk,oS c5];try rfl
 .rw[aal c0]
def c_yhas:Cd:=⟨10,[.agg kSta,.agg kSnap],[.one .bool],rd_Sta fun s=>rd_Snap fun x _=>[.z (AD (Ar s x))],T0⟩
def yz:Tr:=
(.call 0 [.bool] (.vs 0 171 .nil) 247
(.br (.s 247)
(.cut 0 248 []
(.br (.eq (.w 0) (.p 0))
(.call 1 [.bool] (.vs 0 9 (.cons (.w 171) .nil)) 248
(.br (.s 248)
(.next 0 .nil)
 zlF))
(.br (.eq (.f .and .i64 (.f .shr .i64 (.w 182) (.p 0)) (.p 1)) (.p 0))
 zlF
(.call 1 [.bool] (.vs 0 9 (.cons (.w 171) .nil)) 248
(.br (.s 248)
(.next 0 .nil)
 zlF))))
(.cut 1 248 []
(.br (.eq (.w 9) (.p 0))
(.call 1 [.bool] (.vs 9 9 (.cons (.w 172) .nil)) 248
(.br (.s 248)
(.next 1 .nil)
 zlF))
(.br (.eq (.f .and .i64 (.f .shr .i64 (.w 182) (.p 1)) (.p 1)) (.p 0))
 zlF
(.call 1 [.bool] (.vs 9 9 (.cons (.w 172) .nil)) 248
(.br (.s 248)
(.next 1 .nil)
 zlF))))
(.cut 2 248 []
(.br (.eq (.w 18) (.p 0))
(.call 1 [.bool] (.vs 18 9 (.cons (.w 173) .nil)) 248
(.br (.s 248)
(.next 2 .nil)
 zlF))
(.br (.eq (.f .and .i64 (.f .shr .i64 (.w 182) (.p 2)) (.p 1)) (.p 0))
 zlF
(.call 1 [.bool] (.vs 18 9 (.cons (.w 173) .nil)) 248
(.br (.s 248)
(.next 2 .nil)
 zlF))))
(.cut 3 248 []
(.br (.eq (.w 27) (.p 0))
(.call 1 [.bool] (.vs 27 9 (.cons (.w 174) .nil)) 248
(.br (.s 248)
(.next 3 .nil)
 zlF))
(.br (.eq (.f .and .i64 (.f .shr .i64 (.w 182) (.p 3)) (.p 1)) (.p 0))
 zlF
(.call 1 [.bool] (.vs 27 9 (.cons (.w 174) .nil)) 248
(.br (.s 248)
(.next 3 .nil)
 zlF))))
(.cut 4 248 []
(.br (.eq (.w 36) (.p 0))
(.call 1 [.bool] (.vs 36 9 (.cons (.w 175) .nil)) 248
(.br (.s 248)
(.next 4 .nil)
 zlF))
(.br (.eq (.f .and .i64 (.f .shr .i64 (.w 182) (.p 4)) (.p 1)) (.p 0))
 zlF
(.call 1 [.bool] (.vs 36 9 (.cons (.w 175) .nil)) 248
(.br (.s 248)
(.next 4 .nil)
 zlF))))
(.cut 5 248 []
(.br (.eq (.w 45) (.p 0))
(.call 1 [.bool] (.vs 45 9 (.cons (.w 176) .nil)) 248
(.br (.s 248)
(.next 5 .nil)
 zlF))
(.br (.eq (.f .and .i64 (.f .shr .i64 (.w 182) (.p 5)) (.p 1)) (.p 0))
 zlF
(.call 1 [.bool] (.vs 45 9 (.cons (.w 176) .nil)) 248
(.br (.s 248)
(.next 5 .nil)
 zlF))))
(.cut 6 248 []
(.br (.eq (.w 54) (.p 0))
(.call 1 [.bool] (.vs 54 9 (.cons (.w 177) .nil)) 248
(.br (.s 248)
(.next 6 .nil)
 zlF))
(.br (.eq (.f .and .i64 (.f .shr .i64 (.w 182) (.p 6)) (.p 1)) (.p 0))
 zlF
(.call 1 [.bool] (.vs 54 9 (.cons (.w 177) .nil)) 248
(.br (.s 248)
(.next 6 .nil)
 zlF))))
(.cut 7 248 []
(.br (.eq (.w 63) (.p 0))
(.call 1 [.bool] (.vs 63 9 (.cons (.w 178) .nil)) 248
(.br (.s 248)
(.next 7 .nil)
 zlF))
(.br (.eq (.f .and .i64 (.f .shr .i64 (.w 182) (.p 7)) (.p 1)) (.p 0))
 zlF
(.call 1 [.bool] (.vs 63 9 (.cons (.w 178) .nil)) 248
(.br (.s 248)
(.next 7 .nil)
 zlF))))
(.cut 8 248 []
(.br (.eq (.w 72) (.p 0))
(.call 1 [.bool] (.vs 72 9 (.cons (.w 179) .nil)) 248
(.br (.s 248)
(.next 8 .nil)
 zlF))
(.br (.eq (.f .and .i64 (.f .shr .i64 (.w 182) (.p 8)) (.p 1)) (.p 0))
 zlF
(.call 1 [.bool] (.vs 72 9 (.cons (.w 179) .nil)) 248
(.br (.s 248)
(.next 8 .nil)
 zlF))))
(.cut 9 248 []
(.br (.eq (.w 81) (.p 0))
(.call 1 [.bool] (.vs 81 9 (.cons (.w 180) .nil)) 248
(.br (.s 248)
(.next 9 .nil)
 zlF))
(.br (.eq (.f .and .i64 (.f .shr .i64 (.w 182) (.p 9)) (.p 1)) (.p 0))
 zlF
(.call 1 [.bool] (.vs 81 9 (.cons (.w 180) .nil)) 248
(.br (.s 248)
(.next 9 .nil)
 zlF))))
(.cut 10 248 []
(.br (.eq (.w 90) (.p 0))
(.call 1 [.bool] (.vs 90 9 (.cons (.w 181) .nil)) 248
(.br (.s 248)
(.next 10 .nil)
 zlF))
(.br (.eq (.f .and .i64 (.f .shr .i64 (.w 182) (.p 10)) (.p 1)) (.p 0))
 zlF
(.call 1 [.bool] (.vs 90 9 (.cons (.w 181) .nil)) 248
(.br (.s 248)
(.next 10 .nil)
 zlF))))
(.call 1 [.bool] (.vs 99 9 (.cons (.f .or .u64 (.f .shl .u64 (.f .or .u64 (.f .shl .u64 (.f .or .u64 (.f .shl .u64 (.f .or .u64 (.f .shl .u64 (.f .or .u64 (.f .shl .u64 (.f .or .u64 (.f .shl .u64 (.f .or .u64 (.f .shl .u64 (.f .or .u64 (.p 0) (.F .u64 (.w 190))) (.p 8)) (.F .u64 (.w 189))) (.p 8)) (.F .u64 (.w 188))) (.p 8)) (.F .u64 (.w 187))) (.p 8)) (.F .u64 (.w 186))) (.p 8)) (.F .u64 (.w 185))) (.p 8)) (.F .u64 (.w 184))) (.p 8)) (.F .u64 (.w 183))) .nil)) 248
(.br (.s 248)
(.call 1 [.bool] (.vs 108 9 (.cons (.f .or .u64 (.f .shl .u64 (.f .or .u64 (.f .shl .u64 (.f .or .u64 (.f .shl .u64 (.f .or .u64 (.f .shl .u64 (.f .or .u64 (.f .shl .u64 (.f .or .u64 (.f .shl .u64 (.f .or .u64 (.f .shl .u64 (.f .or .u64 (.p 0) (.F .u64 (.w 198))) (.p 8)) (.F .u64 (.w 197))) (.p 8)) (.F .u64 (.w 196))) (.p 8)) (.F .u64 (.w 195))) (.p 8)) (.F .u64 (.w 194))) (.p 8)) (.F .u64 (.w 193))) (.p 8)) (.F .u64 (.w 192))) (.p 8)) (.F .u64 (.w 191))) .nil)) 249
(.br (.s 249)
(.call 1 [.bool] (.vs 117 9 (.cons (.f .or .u64 (.f .shl .u64 (.f .or .u64 (.f .shl .u64 (.f .or .u64 (.f .shl .u64 (.f .or .u64 (.f .shl .u64 (.f .or .u64 (.f .shl .u64 (.f .or .u64 (.f .shl .u64 (.f .or .u64 (.f .shl .u64 (.f .or .u64 (.p 0) (.F .u64 (.w 206))) (.p 8)) (.F .u64 (.w 205))) (.p 8)) (.F .u64 (.w 204))) (.p 8)) (.F .u64 (.w 203))) (.p 8)) (.F .u64 (.w 202))) (.p 8)) (.F .u64 (.w 201))) (.p 8)) (.F .u64 (.w 200))) (.p 8)) (.F .u64 (.w 199))) .nil)) 250
(.br (.s 250)
(.call 1 [.bool] (.vs 126 9 (.cons (.f .or .u64 (.f .shl .u64 (.f .or .u64 (.f .shl .u64 (.f .or .u64 (.f .shl .u64 (.f .or .u64 (.f .shl .u64 (.f .or .u64 (.f .shl .u64 (.f .or .u64 (.f .shl .u64 (.f .or .u64 (.f .shl .u64 (.f .or .u64 (.p 0) (.F .u64 (.w 214))) (.p 8)) (.F .u64 (.w 213))) (.p 8)) (.F .u64 (.w 212))) (.p 8)) (.F .u64 (.w 211))) (.p 8)) (.F .u64 (.w 210))) (.p 8)) (.F .u64 (.w 209))) (.p 8)) (.F .u64 (.w 208))) (.p 8)) (.F .u64 (.w 207))) .nil)) 251
(.br (.s 251)
(.call 1 [.bool] (.vs 135 9 (.cons (.f .or .u64 (.f .shl .u64 (.f .or .u64 (.f .shl .u64 (.f .or .u64 (.f .shl .u64 (.f .or .u64 (.f .shl .u64 (.f .or .u64 (.f .shl .u64 (.f .or .u64 (.f .shl .u64 (.f .or .u64 (.f .shl .u64 (.f .or .u64 (.p 0) (.F .u64 (.w 222))) (.p 8)) (.F .u64 (.w 221))) (.p 8)) (.F .u64 (.w 220))) (.p 8)) (.F .u64 (.w 219))) (.p 8)) (.F .u64 (.w 218))) (.p 8)) (.F .u64 (.w 217))) (.p 8)) (.F .u64 (.w 216))) (.p 8)) (.F .u64 (.w 215))) .nil)) 252
(.br (.s 252)
(.call 1 [.bool] (.vs 144 9 (.cons (.f .or .u64 (.f .shl .u64 (.f .or .u64 (.f .shl .u64 (.f .or .u64 (.f .shl .u64 (.f .or .u64 (.f .shl .u64 (.f .or .u64 (.f .shl .u64 (.f .or .u64 (.f .shl .u64 (.f .or .u64 (.f .shl .u64 (.f .or .u64 (.p 0) (.F .u64 (.w 230))) (.p 8)) (.F .u64 (.w 229))) (.p 8)) (.F .u64 (.w 228))) (.p 8)) (.F .u64 (.w 227))) (.p 8)) (.F .u64 (.w 226))) (.p 8)) (.F .u64 (.w 225))) (.p 8)) (.F .u64 (.w 224))) (.p 8)) (.F .u64 (.w 223))) .nil)) 253
(.br (.s 253)
(.call 1 [.bool] (.vs 153 9 (.cons (.f .or .u64 (.f .shl .u64 (.f .or .u64 (.f .shl .u64 (.f .or .u64 (.f .shl .u64 (.f .or .u64 (.f .shl .u64 (.f .or .u64 (.f .shl .u64 (.f .or .u64 (.f .shl .u64 (.f .or .u64 (.f .shl .u64 (.f .or .u64 (.p 0) (.F .u64 (.w 238))) (.p 8)) (.F .u64 (.w 237))) (.p 8)) (.F .u64 (.w 236))) (.p 8)) (.F .u64 (.w 235))) (.p 8)) (.F .u64 (.w 234))) (.p 8)) (.F .u64 (.w 233))) (.p 8)) (.F .u64 (.w 232))) (.p 8)) (.F .u64 (.w 231))) .nil)) 254
(.br (.s 254)
(.call 1 [.bool] (.vs 162 9 (.cons (.f .or .u64 (.f .shl .u64 (.f .or .u64 (.f .shl .u64 (.f .or .u64 (.f .shl .u64 (.f .or .u64 (.f .shl .u64 (.f .or .u64 (.f .shl .u64 (.f .or .u64 (.f .shl .u64 (.f .or .u64 (.f .shl .u64 (.f .or .u64 (.p 0) (.F .u64 (.w 246))) (.p 8)) (.F .u64 (.w 245))) (.p 8)) (.F .u64 (.w 244))) (.p 8)) (.F .u64 (.w 243))) (.p 8)) (.F .u64 (.w 242))) (.p 8)) (.F .u64 (.w 241))) (.p 8)) (.F .u64 (.w 240))) (.p 8)) (.F .u64 (.w 239))) .nil)) 255
(.br (.s 255)
 zlT
 zlF))
 zlF))
 zlF))
 zlF))
 zlF))
 zlF))
 zlF))
 zlF)))))))))))))
 zlF))
def apl:cg aev (FV 0 [c_ymay,c_yhold]) [] [] [(5,[.top 16]++E3 [(4,1),(17,25)])] 400 f10 c_yhas.a c_yhas.r (tp c_yhas.r) (v_Sta (v_Snap [])) yz:=E4 (by kernel_rfl)
def asX:c_yhas.Ok ZF:=
 GD yz (v_Sta (v_Snap [])) mg (Am asW<|Am aql AI) func10 EZ apl<|dX fun s hs=>ab5 fun x hx hp U g=>by
 have Aq:=g;simp only[c_yhas,bY,fz,mC,rdZ,rdB,rdL];simp only[cd,AE,cS,AA,ZD]at g;simp(maxSteps:=10000000) only[yz,Kx,c_ymay,c_yhold,DH,rdZ,rdB,rdL,c_yhas,cd,AE,cS,Ai,ZH,ZD,-eq_self,bK,g];obtain⟨_,_,_,_,_,_,_,_,_,_,_,_,Vs,Vt,Vu,Vv,Vx,Vy,Vz,VA,VB,VC,VD,VE,VF,VG,VH,VL,VM,VN,VO,VP,VQ,VS,VT,VU,VV,VW,VX,VY,VZ,V0,V1,V2,V3,V4,V5,V6,V7,V8,V9,Wa,Wc,Wd,We,Wf,Wg,Wh,Wi,Wj,Wk,Wl,Wm,Wn,Wo,Wp,Wq,Wr,Ws,Wt,Wu,Wv,Ww,Wx,Wy,Wz⟩:=hx;refine aK ?_;apply aI<;>intro c0;refine⟨fun _=>rok x.set 0 s.r0 x.r0=ZB,?_,?_⟩;apply aI<;>intro c1;refine aK ?_;apply aI<;>intro c2
 .exact gI c1 c2
 .simp only[Ar,cm (set:=x.set) (i:=0) c2,av,au]
 apply aI<;>intro c3
 .simp only[Ar,gH (i:=0) (v:=x.r0) c1 (show A6 x.set 0=ZC by unfold A6;have h:=c3;rw[bG]at h;simpa using h),av,au]
 refine aK ?_;apply aI<;>intro c4
 .exact gG (show A6 x.set 0=ZB by unfold A6;have h:=c3;rw[bG]at h;simpa using h) c4
 .simp only[Ar,cm (set:=x.set) (i:=0) c4,av,au]
 intro U0 JI _ hi0;have FF:=(aZ JI _ 0 ST).trans Aq;have g0:=FF;simp only[cd,AE,cS,AA,ZD]at g0;simp only[g0,-eq_self];refine⟨fun _=>rok x.set 1 s.r1 x.r1=ZB,?_,?_⟩;apply aI<;>intro c5;refine aK ?_;apply aI<;>intro c6
 .exact gI c5 c6
 .simp only[Ar,cm (set:=x.set) (i:=1) c6,av,au]
 apply aI<;>intro c7
 .simp only[Ar,gH (i:=1) (v:=x.r1) c5 (show A6 x.set 1=ZC by unfold A6;have h:=c7;rw[bG]at h;simpa using h),av,au]
 refine aK ?_;apply aI<;>intro c8
 .exact gG (show A6 x.set 1=ZB by unfold A6;have h:=c7;rw[bG]at h;simpa using h) c8
 .simp only[Ar,cm (set:=x.set) (i:=1) c8,av,au]
 intro U1 A0 _ Bc;have Al:=(aZ A0 _ 0 ST).trans FF;have g1:=Al;simp only[cd,AE,cS,AA,ZD]at g1;simp only[g1,-eq_self];refine⟨fun _=>rok x.set 2 s.r2 x.r2=ZB,?_,?_⟩;apply aI<;>intro c9;refine aK ?_;apply aI<;>intro BF
 .exact gI c9 BF
 .simp only[Ar,cm (set:=x.set) (i:=2) BF,av,au]
 apply aI<;>intro CF
 .simp only[Ar,gH (i:=2) (v:=x.r2) c9 (show A6 x.set 2=ZC by unfold A6;have h:=CF;rw[bG]at h;simpa using h),av,au]
 refine aK ?_;apply aI<;>intro B9
 .exact gG (show A6 x.set 2=ZB by unfold A6;have h:=CF;rw[bG]at h;simpa using h) B9
 .simp only[Ar,cm (set:=x.set) (i:=2) B9,av,au]
 intro U2 Cf _ Gx;have FG:=(aZ Cf _ 0 ST).trans Al;have g2:=FG;simp only[cd,AE,cS,AA,ZD]at g2;simp only[g2,-eq_self];refine⟨fun _=>rok x.set 3 s.r3 x.r3=ZB,?_,?_⟩;apply aI<;>intro Cr;refine aK ?_;apply aI<;>intro CG
 .exact gI Cr CG
 .simp only[Ar,cm (set:=x.set) (i:=3) CG,av,au]
 apply aI<;>intro C1
 .simp only[Ar,gH (i:=3) (v:=x.r3) Cr (show A6 x.set 3=ZC by unfold A6;have h:=C1;rw[bG]at h;simpa using h),av,au]
 refine aK ?_;apply aI<;>intro Dk
 .exact gG (show A6 x.set 3=ZB by unfold A6;have h:=C1;rw[bG]at h;simpa using h) Dk
 .simp only[Ar,cm (set:=x.set) (i:=3) Dk,av,au]
 intro U3 Bd _ Iz;have FH:=(aZ Bd _ 0 ST).trans FG;have g3:=FH;simp only[cd,AE,cS,AA,ZD]at g3;simp only[g3,-eq_self];refine⟨fun _=>rok x.set 4 s.r4 x.r4=ZB,?_,?_⟩;apply aI<;>intro Df;refine aK ?_;apply aI<;>intro Dg
 .exact gI Df Dg
 .simp only[Ar,cm (set:=x.set) (i:=4) Dg,av,au]
 apply aI<;>intro Dz
 .simp only[Ar,gH (i:=4) (v:=x.r4) Df (show A6 x.set 4=ZC by unfold A6;have h:=Dz;rw[bG]at h;simpa using h),av,au]
 refine aK ?_;apply aI<;>intro DA
 .exact gG (show A6 x.set 4=ZB by unfold A6;have h:=Dz;rw[bG]at h;simpa using h) DA
 .simp only[Ar,cm (set:=x.set) (i:=4) DA,av,au]
 intro U4 MN _ PX;have FI:=(aZ MN _ 0 ST).trans FH;have g4:=FI;simp only[cd,AE,cS,AA,ZD]at g4;simp only[g4,-eq_self];refine⟨fun _=>rok x.set 5 s.r5 x.r5=ZB,?_,?_⟩;apply aI<;>intro EM;refine aK ?_;apply aI<;>intro FY
 .exact gI EM FY
 .simp only[Ar,cm (set:=x.set) (i:=5) FY,av,au]
 apply aI<;>intro GH
 .simp only[Ar,gH (i:=5) (v:=x.r5) EM (show A6 x.set 5=ZC by unfold A6;have h:=GH;rw[bG]at h;simpa using h),av,au]
 refine aK ?_;apply aI<;>intro HA
 .exact gG (show A6 x.set 5=ZB by unfold A6;have h:=GH;rw[bG]at h;simpa using h) HA
 .simp only[Ar,cm (set:=x.set) (i:=5) HA,av,au]
 intro U5 L4 _ Rh;have FJ:=(aZ L4 _ 0 ST).trans FI;have g5:=FJ;simp only[cd,AE,cS,AA,ZD]at g5;simp only[g5,-eq_self];refine⟨fun _=>rok x.set 6 s.r6 x.r6=ZB,?_,?_⟩;apply aI<;>intro Gd;refine aK ?_;apply aI<;>intro Jx
 .exact gI Gd Jx
 .simp only[Ar,cm (set:=x.set) (i:=6) Jx,av,au]
 apply aI<;>intro Io
 .simp only[Ar,gH (i:=6) (v:=x.r6) Gd (show A6 x.set 6=ZC by unfold A6;have h:=Io;rw[bG]at h;simpa using h),av,au]
 refine aK ?_;apply aI<;>intro I9
 .exact gG (show A6 x.set 6=ZB by unfold A6;have h:=Io;rw[bG]at h;simpa using h) I9
 .simp only[Ar,cm (set:=x.set) (i:=6) I9,av,au]
 intro U6 Lw _ PY;have FK:=(aZ Lw _ 0 ST).trans FJ;have g6:=FK;simp only[cd,AE,cS,AA,ZD]at g6;simp only[g6,-eq_self];refine⟨fun _=>rok x.set 7 s.r7 x.r7=ZB,?_,?_⟩;apply aI<;>intro J9;refine aK ?_;apply aI<;>intro Ka
 .exact gI J9 Ka
 .simp only[Ar,cm (set:=x.set) (i:=7) Ka,av,au]
 apply aI<;>intro Kb
 .simp only[Ar,gH (i:=7) (v:=x.r7) J9 (show A6 x.set 7=ZC by unfold A6;have h:=Kb;rw[bG]at h;simpa using h),av,au]
 refine aK ?_;apply aI<;>intro Jy
 .exact gG (show A6 x.set 7=ZB by unfold A6;have h:=Kb;rw[bG]at h;simpa using h) Jy
 .simp only[Ar,cm (set:=x.set) (i:=7) Jy,av,au]
 intro U7 Lx _ Ri;have FL:=(aZ Lx _ 0 ST).trans FK;have g7:=FL;simp only[cd,AE,cS,AA,ZD]at g7;simp only[g7,-eq_self];refine⟨fun _=>rok x.set 8 s.r8 x.r8=ZB,?_,?_⟩;apply aI<;>intro KD;refine aK ?_;apply aI<;>intro KE
 .exact gI KD KE
 .simp only[Ar,cm (set:=x.set) (i:=8) KE,av,au]
 apply aI<;>intro Ls
 .simp only[Ar,gH (i:=8) (v:=x.r8) KD (show A6 x.set 8=ZC by unfold A6;have h:=Ls;rw[bG]at h;simpa using h),av,au]
 refine aK ?_;apply aI<;>intro LP
 .exact gG (show A6 x.set 8=ZB by unfold A6;have h:=Ls;rw[bG]at h;simpa using h) LP
 .simp only[Ar,cm (set:=x.set) (i:=8) LP,av,au]
 intro U8 ha8 _ hi8;have FM:=(aZ ha8 _ 0 ST).trans FL;have g8:=FM;simp only[cd,AE,cS,AA,ZD]at g8;simp only[g8,-eq_self];refine⟨fun _=>rok x.set 9 s.r9 x.r9=ZB,?_,?_⟩;apply aI<;>intro Kc;refine aK ?_;apply aI<;>intro Lt
 .exact gI Kc Lt
 .simp only[Ar,cm (set:=x.set) (i:=9) Lt,av,au]
 apply aI<;>intro Lu
 .simp only[Ar,gH (i:=9) (v:=x.r9) Kc (show A6 x.set 9=ZC by unfold A6;have h:=Lu;rw[bG]at h;simpa using h),av,au]
 refine aK ?_;apply aI<;>intro KF
 .exact gG (show A6 x.set 9=ZB by unfold A6;have h:=Lu;rw[bG]at h;simpa using h) KF
 .simp only[Ar,cm (set:=x.set) (i:=9) KF,av,au]
 intro U9 ha9 _ hi9;have FN:=(aZ ha9 _ 0 ST).trans FM;have g9:=FN;simp only[cd,AE,cS,AA,ZD]at g9;simp only[g9,-eq_self];refine⟨fun _=>rok x.set 10 s.r10 x.r10=ZB,?_,?_⟩;apply aI<;>intro KG;refine aK ?_;apply aI<;>intro Kd
 .exact gI KG Kd
 .simp only[Ar,cm (set:=x.set) (i:=10) Kd,av,au]
 apply aI<;>intro Jz
 .simp only[Ar,gH (i:=10) (v:=x.r10) KG (show A6 x.set 10=ZC by unfold A6;have h:=Jz;rw[bG]at h;simpa using h),av,au]
 refine aK ?_;apply aI<;>intro Lv
 .exact gG (show A6 x.set 10=ZB by unfold A6;have h:=Jz;rw[bG]at h;simpa using h) Lv
 .simp only[Ar,cm (set:=x.set) (i:=10) Lv,av,au]
 intro U10 Oq _ OC;have Hg:=(aZ Oq _ 0 ST).trans FN;have QW:=Hg;simp only[cd,AE,cS,AA,ZD]at QW;simp only[QW,-eq_self];refine aK ?_;apply aI<;>intro Ke;refine aK ?_;apply aI<;>intro HB;refine aK ?_;apply aI<;>intro Kf;refine aK ?_;apply aI<;>intro Kg;refine aK ?_;apply aI<;>intro Kh;refine aK ?_;apply aI<;>intro Ki;refine aK ?_;apply aI<;>intro Kj;refine aK ?_;apply aI<;>intro JA
 .rw[Aw VA,Aw Vz,Aw Vy,Aw Vx,Aw Vv,Aw Vu,Aw Vt,Aw Vs,dE Vs Vt Vu Vv Vx Vy Vz VA]at Ke;rw[Aw VL,Aw VH,Aw VG,Aw VF,Aw VE,Aw VD,Aw VC,Aw VB,dE VB VC VD VE VF VG VH VL]at HB;rw[Aw VU,Aw VT,Aw VS,Aw VQ,Aw VP,Aw VO,Aw VN,Aw VM,dE VM VN VO VP VQ VS VT VU]at Kf;rw[Aw V2,Aw V1,Aw V0,Aw VZ,Aw VY,Aw VX,Aw VW,Aw VV,dE VV VW VX VY VZ V0 V1 V2]at Kg;rw[Aw Wa,Aw V9,Aw V8,Aw V7,Aw V6,Aw V5,Aw V4,Aw V3,dE V3 V4 V5 V6 V7 V8 V9 Wa]at Kh;rw[Aw Wj,Aw Wi,Aw Wh,Aw Wg,Aw Wf,Aw We,Aw Wd,Aw Wc,dE Wc Wd We Wf Wg Wh Wi Wj]at Ki;rw[Aw Wr,Aw Wq,Aw Wp,Aw Wo,Aw Wn,Aw Wm,Aw Wl,Aw Wk,dE Wk Wl Wm Wn Wo Wp Wq Wr]at Kj;rw[Aw Wz,Aw Wy,Aw Wx,Aw Ww,Aw Wv,Aw Wu,Aw Wt,Aw Ws,dE Ws Wt Wu Wv Ww Wx Wy Wz]at JA;simp only[Ar,be,c0,Ke,HB,Kf,Kg,Kh,Ki,Kj,JA,hi0,Bc,Gx,Iz,PX,Rh,PY,Ri,hi8,hi9,OC,Bool.and_true,Bool.true_and]
 .rw[Aw Wz,Aw Wy,Aw Wx,Aw Ww,Aw Wv,Aw Wu,Aw Wt,Aw Ws,dE Ws Wt Wu Wv Ww Wx Wy Wz]at JA;simp only[Ar,be,JA,av,au]
 .rw[Aw Wr,Aw Wq,Aw Wp,Aw Wo,Aw Wn,Aw Wm,Aw Wl,Aw Wk,dE Wk Wl Wm Wn Wo Wp Wq Wr]at Kj;simp only[Ar,be,Kj,av,au]
 .rw[Aw Wj,Aw Wi,Aw Wh,Aw Wg,Aw Wf,Aw We,Aw Wd,Aw Wc,dE Wc Wd We Wf Wg Wh Wi Wj]at Ki;simp only[Ar,be,Ki,av,au]
 .rw[Aw Wa,Aw V9,Aw V8,Aw V7,Aw V6,Aw V5,Aw V4,Aw V3,dE V3 V4 V5 V6 V7 V8 V9 Wa]at Kh;simp only[Ar,be,Kh,av,au]
 .rw[Aw V2,Aw V1,Aw V0,Aw VZ,Aw VY,Aw VX,Aw VW,Aw VV,dE VV VW VX VY VZ V0 V1 V2]at Kg;simp only[Ar,be,Kg,av,au]
 .rw[Aw VU,Aw VT,Aw VS,Aw VQ,Aw VP,Aw VO,Aw VN,Aw VM,dE VM VN VO VP VQ VS VT VU]at Kf;simp only[Ar,be,Kf,av,au]
 .rw[Aw VL,Aw VH,Aw VG,Aw VF,Aw VE,Aw VD,Aw VC,Aw VB,dE VB VC VD VE VF VG VH VL]at HB;simp only[Ar,be,HB,av,au]
 .rw[Aw VA,Aw Vz,Aw Vy,Aw Vx,Aw Vv,Aw Vu,Aw Vt,Aw Vs,dE Vs Vt Vu Vv Vx Vy Vz VA]at Ke;simp only[Ar,be,Ke,av,au]
 .simp only[Ar,c0,av]
def acQ{P:Program}{t e:TypeId}{ks:List CE}(r:Rw P e ks)(Ei:0<ks.length)(ht:P.underlying t=ZA (.slice e)){enc:TypeId×Value->H}{hd:Bool}{v:Value}{fuel:Nat}{x:DataW H×List MemPlace}(hf:DataW.trod enc P W 0 (fun _=>ZB) hd fuel t [v]=ZA x):∃L s,v=s.v/\s.n=L.length/\RdRow W ks.length s (flat ks L)/\RowsIn ks L/\∀k,s.blk ZC=ZA k->k<W.heap.size:=by
 obtain⟨a0,H0,JB,CS⟩:=Go.Joins.slice_form ht hf;obtain rfl:v=.slice a0 H0 JB:=by simpa using CS
 rcases Go.Deep.open_slice ht hf with⟨h1,_⟩|⟨a,len,Hp,m,n,D,Pl,h1,_,hl,hm,hmm,_,Oy⟩
 .simp only[Be,Value.slice.injEq,and_true]at h1;obtain⟨rfl,rfl,rfl⟩:=h1;exact⟨[],⟨ZE,0,0,[]⟩,rfl,rfl,⟨by simp[flat],ZK _,by simp[maxLen],fun _=>⟨rfl,rfl⟩,fun a ha=>(by cases ha)⟩,⟨fun r hr=>(by cases hr),by simp⟩,fun k hk=>by have:=ay hk;cases this⟩
 .simp only[Be,Value.slice.injEq,and_true]at h1;obtain⟨rfl,rfl,rfl⟩:=h1;have hmc:m=JB:=by rw[hmm];rfl
  subst hmc;rw[r.cells]at Oy;have key:∀i,i<H0->∃x,W.cells? 0 (a.add (i*ks.length)) ks.length=ZA (Bm ks x)/\az ks x=ZB:=fun i hi=>by obtain⟨Gv,h1,h2⟩:=Oy i Fn;obtain⟨x,hx,F9⟩:=r.opn h2;exact⟨x,by rw[<-hx];exact h1,F9⟩
  obtain⟨L,hL,hq⟩:=abK key;have AW:∀x∈L,az ks x=ZB:=fun x hx=>by obtain⟨i,hi,he⟩:=List.getElem_of_mem hx;exact(hq i x (by rw[AH hi,he])).2
  refine⟨L,⟨ZA a,H0,m,[]⟩,rfl,hL.symm,⟨?_,hl,hm,fun ha=>(by cases ha),fun a' CX i u hu=> ?_⟩,⟨AW,by rw[hL];exact dd hl hm⟩,fun k hk=> ?_⟩
  .rw[bw AW,hL]
  .cases CX;have As:i<(flat ks L).length:=(cZ.1 hu).1;rw[bw AW]at As;have hi:i / ks.length<L.length:=Nat.div_lt_of_lt_mul (by rw[Nat.mul_comm];exact As);have hc:i % ks.length<ks.length:=Nat.mod_lt _ Ei;have e1:i=i / ks.length*ks.length+i % ks.length:=by rw[Nat.mul_comm];exact(Nat.div_add_mod _ _).symm
   rw[e1,mR (AH hc) AW hi]at hu;obtain⟨q1,q2⟩:=hq (i / ks.length) L[i / ks.length] (AH hi);obtain⟨_,AZ,Dx⟩:=World.cells?_some q1;have h3:=Dx (i % ks.length) hc;rw[oO q2 (AH hc)]at h3;have hg:L.getD (i / ks.length) []=L[i / ks.length]:=by rw[bZ,AH hi];rfl
   rw[hg]at hu;rw[e1,<-bS,h3];exact hu
  .have hc:m≠0:=fun hc=>by
    unfold SV.blk at hk;simp[hc]at hk
   obtain⟨Gv,h1,h2⟩:=Oy 0 Fn;have h4:=acm h1 Ei;have h5:=ay hk;simp only[SV.v,Value.ownBlock,bo]at h5;rw[<-h5];have:(a.add (0*ks.length)).block=a.block:=YE;rw[<-this];exact h4.1
def JZ:Rw ZF 38 [ZA .i8]:=Rw.int .i8 underlying38 (by kernel_rfl)
def rwI64:Rw ZF 3 [ZA .i64]:=Rw.int .i64 underlying3 (by kernel_rfl)
def rwBo:Rw ZF 4 [ZE]:=Rw.bool underlying4 (by kernel_rfl)
def auW:Rw ZF 66 [ZA .i8,ZA .i8,ZA .i8,ZA .i8,ZE,ZA .i8,ZA .i8,ZA .i64,ZA .i64]:=by refine Rw.struct (ks:=[ZA .i8,ZA .i8,ZA .i8,ZA .i8,ZE,ZA .i8,ZA .i8,ZA .i64,ZA .i64]) ?_ underlying66 (by kernel_rfl);exact(RwSeq.cons (ks:=[ZA .i8]) JZ (by rfl) (RwSeq.cons (ks:=[ZA .i8]) JZ (by rfl) (RwSeq.cons (ks:=[ZA .i8]) JZ (by rfl) (RwSeq.cons (ks:=[ZA .i8]) JZ (by rfl) (RwSeq.cons (ks:=[ZE]) rwBo (by rfl) (RwSeq.cons (ks:=[ZA .i8]) JZ (by rfl) (RwSeq.cons (ks:=[ZA .i8]) JZ (by rfl) (RwSeq.cons (ks:=[ZA .i64]) rwI64 (by rfl) (RwSeq.cons (ks:=[ZA .i64]) rwI64 (by rfl) (RwSeq.nil _ _))))))))))
def Prog.of_arg{enc:TypeId×Value->H}{hd:Bool}{v:Value}{d:DataW H}{p:List MemPlace}{rc:Reach}{b0:Nat}(hv:Value.okWide ZF W rc b0 24 v)(h:DataW.Trod enc ZF W 0 (fun _=>ZB) hd 24 v d p):∃(c:Int) (L:List (List Int)) (s:_),v=.agg #[.int .i64 c,SV.v s]/\Ae .i64 c=ZB/\s.n=L.length/\RdRow W 9 s (flat [ZA .i8,ZA .i8,ZA .i8,ZA .i8,ZE,ZA .i8,ZA .i8,ZA .i64,ZA .i64] L)/\RowsIn [ZA .i8,ZA .i8,ZA .i8,ZA .i8,ZE,ZA .i8,ZA .i8,ZA .i64,ZA .i64] L/\∀k,s.blk ZC=ZA k->k<W.heap.size:=by
 obtain⟨v0,v1,y0,y1,n,rfl,_,_,h0,h1⟩:=Go.Joins.open_agg2 underlying24 (by kernel_rfl) (by kernel_rfl) hv h;obtain⟨q,e0,hq⟩:=rwI64.opn h0;obtain⟨L,s,rfl,h2,h3,h4,h5⟩:=acQ auW ST underlying22 h1;obtain⟨c,q,rfl,hc,hq⟩:=acZ hq;obtain rfl:=agJ hq;simp only[Bm,Be,and_true]at e0;exact⟨c,L,s,by rw[e0];rfl,hc,h2,h3,h4,h5⟩
def aet:List (Nat×TI):=[(2,CC),
 (3,CZ),
 (4,EK),
 (5,Lk),
 (22,vq),
 (24,vp),
 (25,aoU),
 (26,aoT),
 (29,Uh),
 (30,Ug),
 (32,Uf),
 (33,Qt),
 (36,Ue),
 (37,arV),
 (38,fY),
 (39,fe),
 (40,aoS),
 (42,arU),
 (46,ic),
 (48,jr),
 (50,eU),
 (52,rh),
 (53,rb),
 (54,ra),
 (56,aai),
 (60,Qs),
 (61,Qr),
 (63,Qq),
 (66,qZ),
 (178,WS)]
def aek:∀t i,(t,i)∈aet->TIok ZF t i:=bl (DS (z:=Ev) ⟨ru,lx⟩<|DS (z:=Dw) ⟨rt,lw⟩<|DS (z:=PM) ⟨anl,aim⟩<|DS (z:=lX) ⟨ly,iq⟩ B1) B1 (by kernel_rfl)
def acU(p:Prog)(cx:LL)(an:LL)(fu:Int):List Dt:=[.z (AD ZB)]
def kK:List Dt->List Dt
 |[.z x0,.l x1,.l x2,.l x3,.z x4]=>acU ⟨x0,x1⟩ x2 x3 x4
 |_=>[]
def nC:Tr:=
(.cut 0 5 [.bool]
(.call 0 [.bool] (.cons (.w 0) (.N (.g 1) .nil)) 5
(.br (.s 5)
(.next 0 (.j (.tt ZB) .nil))
(.br (.lt (.p 256) (.len (.g 2)))
(.next 0 (.j (.tt ZB) .nil))
(.br (.lt (.p 100) (.len (.g 3)))
(.next 0 (.j (.tt ZB) .nil))
(.br (.lt (.w 4) (.p 0))
(.next 0 (.j (.tt ZB) .nil))
(.next 0 (.j (.lt (.p 2000) (.w 4)) .nil)))))))
(.br (.s 5)
(.call 1 [.bool] .nil 6
(.u (.j (.s 6) .nil)))
(.call 2 ([.sl [ZE] 4,.sl EH 56]++[.int .i64]++[.int .i64]) (.cons (.w 0) (.N (.g 1) .nil)) 6
(.br (.eq (.w 9) (.p 0))
(.br (.eq (.len (.g 2)) (.w 0))
(.call 3 ([.sl [ZA .i64] 3]++[.sl Mm 63]++kOut++[.int .i64]) (.cons (.w 0) (.N (.g 1) (.N (.g 2) (.N (.g 3) (.cons (.w 4) .nil))))) 10
(.br (.eq (.w 17) (.p 0))
(.br (.eq (.w 12) (.p 3))
 zlF
(.br (.eq (.len (.g 10)) (.len (.g 11)))
(.loop 1 18 [.int .i64] (.cons (.p 0) .nil)
(.br (.lt (.w 18) (.len (.g 11)))
(.br (.lt (.w 18) (.p 0))
.panic
(.br (.lt (.w 18) (.len (.g 10)))
(.call 4 (kSta++[.bool]) (.N (.g 6) (.N (.g 7) (.cons (.get (.g 10) (.w 18) 0) .nil))) 19
(.br (.s 190)
(.call 5 [.bool] (.vs 19 171 (.gs (.g 11) (.w 18) 0 76 .nil)) 191
(.br (.s 191)
(.call 6 [.bool] (.vs 19 171 (.gs (.g 11) (.w 18) 0 76 .nil)) 192
(.br (.s 192)
(.next 1 (.cons (.f .add .i64 (.w 18) (.p 1)) .nil))
 zlF))
 zlF))
 zlF))
.panic))
(.call 1 [.bool] .nil 19
(.u (.j (.s 19) .nil)))))
 zlF))
 zlF))
(.call 1 [.bool] .nil 10
(.u (.j (.s 10) .nil))))
(.call 1 [.bool] .nil 10
(.u (.j (.s 10) .nil)))))))
def sP_lvsound:Spec:={F:=fun k=>match k with|0=>c_lgreat.F|1=>yL|2=>tT|3=>c_jsnaps.F|4=>c_vat.F|5=>c_thas.F|6=>c_yhas.F|_=>fun _=>[],pre:=fun k=>match k with|0=>jO|2=>pR|3=>jP|4=>TU|_=>fun _=>True,hw:=Jr,hx:=Vl,hi:=Vj}
def acV:cg aet [c_lgreat.m 0,yJ 1,tS 2,c_jsnaps.m 3,c_vat.m 4,c_thas.m 5,c_yhas.m 6] [] [(10,[.tmpI 82 .i64]++E3 [(8,1),(16,3),(83,32)]),(999999,[])] [(2,[.tmpB 38]++E3 [(19,19)])] 200 f3 [.agg kProg,.one (.sl [ZA .u8] 5),.one (.sl [ZA .u64] 39),.one (.int .i64)] [.one .bool] ZC (v_Prog [.list [ZA .u8],.list [ZA .u64],.int .i64]) nC:=E4 (by kernel_rfl)
def apa(g:Nat->Int):Snap:=⟨g 0,g 1,g 2,g 3,g 4,g 5,g 6,g 7,g 8,g 9,g 10,g 11,g 12,g 13,g 14,g 15,g 16,g 17,g 18,g 19,g 20,g 21,g 22,g 23,g 24,g 25,g 26,g 27,g 28,g 29,g 30,g 31,g 32,g 33,g 34,g 35,g 36,g 37,g 38,g 39,g 40,g 41,g 42,g 43,g 44,g 45,g 46,g 47,g 48,g 49,g 50,g 51,g 52,g 53,g 54,g 55,g 56,g 57,g 58,g 59,g 60,g 61,g 62,g 63,g 64,g 65,g 66,g 67,g 68,g 69,g 70,g 71,g 72,g 73,g 74,g 75⟩
def auC(U:Env)(l i t:E):(E.gs l i 0 76 t).D U=d_Snap (apa (gt (l.R U) (i.I U))) (t.D U):=by kernel_rfl
def ao9{L:LL}{n:Nat}{p:Prog}{m:Ms}(W:WM p m)(h:L[n]? =ZA (gO m)):apa (gt L (n:Int))=dC m:=by
 have e:gt L (n:Int)=fun c=>(gO m).getD c 0:=by funext c;unfold gt;rw[cY,show L.getD n []=gO m from by rw[bZ,h];rfl]
 rw[e,afp W.rl W.fl];rfl
def wL{p:Prog}:∀(f:Nat) (m:Ms),(eH p f m).length<=f
 |0,m=>ZK _
 |f+1,m=>by
   unfold eH;split
   .rw[List.length_cons];have:=wL (p:=p) f (DF p m);omega
   .simp
def apz{p:Prog}{cx an:LL}{fu:Int}(hl:p.l.length<=maxLen)(h:(AC p).2.2.2=0)(hc:RowsIn [ZA .u8] cx)(ha:RowsIn [ZA .u64] an)(CY:(cx.length:Int)=p.ctx)(h0:0<=fu)(h1:fu<=2000):
  (Cm p cx an fu).2=0/\(Cm p cx an fu).1.kind≠3/\(cW p cx an fu).1.length=(cW p cx an fu).2.length/\(cW p cx an fu).2.length<=maxLen/\∀n:Nat,n<(cW p cx an fu).2.length->∃m,GM p m/\gt (cW p cx an fu).1 (n:Int) 0=m.pc/\apa (gt (cW p cx an fu).2 (n:Int))=dC m:=by
 have ho:kf p cx fu=0:=aha (xV hl h).1 CY h0 Fn;have g:=als hl h hc ha CY;have er:Cm p cx an fu=(asl (exec p fu.toNat (GC cx an)),0):=by unfold Cm;rw[aa (by simp[ho])]
 have ej:cW p cx an fu=(TV (eH p fu.toNat (GC cx an)),mm p fu.toNat (GC cx an)):=by unfold cW;rw[aa (by simp[ho])]
 rw[er,ej];have hp:=wL (p:=p) fu.toNat (GC cx an);have hs:=vL (p:=p) fu.toNat (GC cx an);refine⟨rfl,sA hl h _ _ g,(List.length_map _).trans hs.symm,?_,fun n hn=> ?_⟩
 .show(mm p fu.toNat (GC cx an)).length<=_;unfold maxLen;omega
 .obtain⟨m,gm,e1,e2⟩:=pE hl h fu.toNat _ g n (by rw[<-hs];exact hn);refine⟨m,gm,?_,ao9 gm.wm e2⟩;show((List.map (fun i=>[i]) (eH p fu.toNat (GC cx an))).getD ((n:Nat):Int).toNat []).getD 0 0=_;rw[cY,show(List.map (fun i=>[i]) (eH p fu.toNat (GC cx an))).getD n []=[m.pc]from by rw[bZ,js,e1];rfl];rfl
def asL{U:Env}{n:Nat}(h:U.b n=ZB):(E.j (.s n) .nil).D U=[.z (AD ZB)]:=by show[Dt.z (AD (U.b n))]=_;rw[h]
def aut(sn st:LL)(i:Int):c_vat.F [.l sn,.l st,.z i]=d_Sta (H8 sn st i) [.z (AD (Et sn st i))]:=auu ⟨sn,st⟩ i
def auw(s:Sta)(x:Snap):c_thas.F (d_Sta s (d_Snap x []))=[.z (AD (Ar s x))]:=by simp only[c_thas,bY,mC]
def aup(s:Sta)(x:Snap):c_yhas.F (d_Sta s (d_Snap x []))=[.z (AD (Ar s x))]:=by simp only[c_yhas,bY,mC]
def WB(p:Prog)(cx an:LL)(fu:Int):c_jsnaps.F (d_Prog p [.l cx,.l an,.z fu])=.l (cW p cx an fu).1::.l (cW p cx an fu).2::d_Out (Cm p cx an fu).1 [.z (Cm p cx an fu).2]:=by simp only[c_jsnaps,wI,rdL,rdZ]
def R7:List CK->Nat->Bool
 |.bool::_,0=>ZB
 |.int _::ks,m+1=>R7 ks m
 |_,_=>ZC
def aca{U:Env}{ds:List Dt}{v0:Nat}:∀(ks:List CK) (n m:Nat),R7 ks m=ZB->eqs U ds v0 n ks->U.b (v0+(n+m))=dB ds (n+m)
 |.bool::ks,n,0,_,h=>h.1
 |.int k::ks,n,m+1,hk,h=>by have:=aca ks (n+1) m hk h.2;rw[show n+(m+1)=n+1+m by omega];exact this
def atW{U:Env}{S:Sta}{b:Bool}{v0:Nat}(h:eqs U (d_Sta S [.z (AD b)]) v0 0 (kSta++[.bool])):U.b (v0+171)=b:=by have e:U.b (v0+171)=dB (d_Sta S [.z (AD b)]) 171:=aca _ 0 171 XZ h;exact e.trans (oE b)
def acT(p:Prog)(hp:Prog.ok p)(cx:LL)(PW:RowsIn [ZA .u8] cx)(an:LL)(han:RowsIn [ZA .u64] an)(fu:Int)(hfu:Ae .i64 fu=ZB):Cn nC sP_lvsound (v_Prog [.list [ZA .u8],.list [ZA .u64],.int .i64]) (d_Prog p [.l cx,.l an,.z fu]) kK:=by
 intro U g;have hl:p.l.length<=maxLen:=hp.2.len;have hF:kK (d_Prog p [.l cx,.l an,.z fu])=[.z (AD ZB)]:=by simp only[kK,wI,rdL,rdZ];rfl
 rw[hF];have g':Dt.z (U.i 0)::.l (U.l 1)::.l (U.l 2)::.l (U.l 3)::[.z (U.i 4)]=.z p.ctx::.l p.l::.l cx::.l an::[.z fu]:=g;simp only[Be,Dt.z.injEq,Dt.l.injEq,and_true]at g';obtain⟨g0,g1,g2,g3,g4⟩:=g';clear g;have wk:∀{U:Env} {I:Nat->List Dt->Prop} {n:Nat},(Tr.call 1 [.bool] .nil n (.u (.j (.s n) .nil))).asks sP_lvsound (fun U e=>e.D U=[.z (AD ZB)]) U I:=fun {U I n}=>aD (xs:=[]) rfl trivial (fun e=>asL (e.1.trans rfl))
 have inv:∀{U1:Env} {P:List Dt->Prop} {e:E} {b:Bool},e.B U1=b->P [.z (AD b)]->P ((E.j e .nil).D U1):=fun {U1 P e b} he h=>by show P [Dt.z (AD (e.B U1))];rw[he];exact h
 unfold nC;refine⟨fun ds=>∃b:Bool,ds=[.z (AD b)]/\(b=ZC->cx.length<=256/\an.length<=100/\0<=fu/\fu<=2000),?_,?_⟩
 .refine aD (xs:=[.z p.ctx,.l p.l]) (by simp only[E.D,E.I,E.R,g0,g1]) hl (fun _=> ?_);have tr:(Tr.next 0 (.j (.tt ZB) .nil)).asks sP_lvsound (fun U e=>e.D U=[.z (AD ZB)]) U (H7 (fun _ _=>False) 0 fun ds=>∃b:Bool,ds=[.z (AD b)]/\(b=ZC->cx.length<=256/\an.length<=100/\0<=fu/\fu<=2000)):=
   bc ⟨ZB,rfl,fun h=>by cases h⟩
  refine⟨fun _=>tr,fun _=>⟨fun _=>tr,fun c1=>⟨fun _=>tr,fun c2=>⟨fun _=>tr,fun c3=>bc ⟨_,rfl,fun c4=> ?_⟩⟩⟩⟩⟩;simp only[E.B,E.I,E.R,g2,g3,g4]at c1 c2 c3 c4;have:=Ab c1;have:=Ab c2;have:=Ab c3;have:=Ab c4;omega
 intro U1 A0 _ Bc;obtain⟨b,Br,hb⟩:=Bc;have b5:U1.b 5=b:=by have:[Dt.z (AD (U1.b 5))]=[.z (AD b)]:=Br;simp only[Be,Dt.z.injEq,and_true]at this;revert this;cases U1.b 5<;>cases b<;>decide
 have q0:U1.i 0=p.ctx:=(A0 0 ST).1.symm.trans g0;have q1:U1.l 1=p.l:=(A0 1 ST).2.2.symm.trans g1;have q2:U1.l 2=cx:=(A0 2 ST).2.2.symm.trans g2;have q3:U1.l 3=an:=(A0 3 ST).2.2.symm.trans g3;have q4:U1.i 4=fu:=(A0 4 ST).1.symm.trans g4;clear g0 g1 g2 g3 g4 A0 Br;refine⟨fun _=>wk,fun c=> ?_⟩;obtain⟨Iv,DU,hb3,hb4⟩:=hb (b5.symm.trans c);refine aD (xs:=[.z p.ctx,.l p.l]) (by simp only[E.D,E.I,E.R,q0,q1]) hl (fun e=> ?_);have e6:U1.l 6=(AC p).1:=e.1;have e7:U1.l 7=(AC p).2.1:=e.2.1;have e9:U1.i 9=(AC p).2.2.2:=e.2.2.2.1;clear e;refine⟨fun c=> ?_,fun _=>wk⟩;have h:(AC p).2.2.2=0:=by simp only[E.B,E.I,e9]at c;exact Bs c
 refine⟨fun c=> ?_,fun _=>wk⟩;have CY:(cx.length:Int)=p.ctx:=by simp only[E.B,E.I,E.R,q2,q0]at c;exact Bs c
 obtain⟨r1,r2,r3,r4,r5⟩:=apz hl h PW han CY hb3 hb4;obtain⟨n1,n2⟩:=zX h;refine aD (xs:=d_Prog p [.l cx,.l an,.z fu]) (by simp only[E.D,E.I,E.R,q0,q1,q2,q3,q4];rfl) ⟨⟨hl,by unfold maxLen;omega⟩,by unfold maxLen;omega⟩ (fun e=> ?_);rw[show sP_lvsound.F 3=c_jsnaps.F from rfl,WB]at e;have e10:U1.l 10=(cW p cx an fu).1:=e.1;have e11:U1.l 11=(cW p cx an fu).2:=e.2.1;have e12:U1.i 12=(Cm p cx an fu).1.kind:=e.2.2.1;have e17:U1.i 17=(Cm p cx an fu).2:=e.2.2.2.2.2.2.2.1;clear e;refine⟨fun _=>⟨fun c=> ?_,fun _=>⟨fun _=> ?_,fun c=> ?_⟩⟩,fun c=> ?_⟩
 .simp only[E.B,E.I,e12]at c;exact ai (Bs c) r2
 rotate_left
 .simp only[E.B,E.I,E.R,e10,e11,r3]at c;simp at c
 .simp only[E.B,E.I,e17,r1]at c;cases c
 generalize hA:(cW p cx an fu).1=A at *;generalize hS:(cW p cx an fu).2=S at *;refine⟨fun ds=>∃n:Nat,ds=[.z (n:Int)]/\n<=S.length,fun ds=>S.length-(dI ds 0).toNat,⟨0,rfl,Nat.zero_le _⟩,?_⟩;intro U2 Cf _ Gx;obtain⟨n,Br,hn⟩:=Gx;have f6:U2.l 6=(AC p).1:=(Cf 6 ST).2.2.symm.trans e6;have f7:U2.l 7=(AC p).2.1:=(Cf 7 ST).2.2.symm.trans e7;have f10:U2.l 10=A:=(Cf 10 ST).2.2.symm.trans e10;have f11:U2.l 11=S:=(Cf 11 ST).2.2.symm.trans e11;rw[show varsD U2 18 [.int .i64]=[.z (U2.i 18)]from rfl]at Br ⊢;simp only[Be,Dt.z.injEq,and_true]at Br;refine⟨fun c=> ?_,fun _=>wk⟩;have K1:n<S.length:=by simp only[E.B,E.I,E.R,f11,Br]at c;have:=Ah c;omega
 obtain⟨m,gm,em1,em2⟩:=r5 n K1;refine⟨fun c1=> ?_,fun _=>⟨fun _=> ?_,fun c1=> ?_⟩⟩
 .simp only[E.B,E.I,Br]at c1;have:=Ah c1;omega
 rotate_left
 .simp only[E.B,E.I,E.R,Br,f10,r3]at c1;have:=Ab c1;omega
 refine aD (xs:=[.l (AC p).1,.l (AC p).2.1,.z m.pc]) (by simp only[E.D,E.I,E.R,f6,f7,f10,Br,em1]) ⟨by show(AC p).1.length<=_;omega,by show(AC p).2.1.length<=_;omega⟩ (fun e=> ?_);rw[show sP_lvsound.F 4=c_vat.F from rfl,aut,(gm.at h).1,(gm.at h).2]at e;have eS:Du U2 19=jc (AC p).2.1 m.pc:=UD (ks:=[.bool]) e;have b190:U2.b 190=ZB:=atW (S:=jc (AC p).2.1 m.pc) (v0:=19) e;clear e;refine⟨fun _=> ?_,fun c=>(by rw[show(E.s 190).B U2=ZB from b190]at c;cases c)⟩;have hX:(E.vs 19 171 (.gs (.g 11) (.w 18) 0 76 .nil)).D U2=d_Sta (jc (AC p).2.1 m.pc) (d_Snap (dC m) []):=by rw[arA,auC,eS,show(E.g 11).R U2=S from f11,show(E.w 18).I U2=(n:Int)from Br,em2];rfl
 have RJ:Ar (jc (AC p).2.1 m.pc) (dC m)=ZB:=gm.sh;refine aD _ hX trivial (fun e=> ?_);rw[show sP_lvsound.F 5=c_thas.F from rfl,auw,RJ]at e;have b191:U2.b 191=ZB:=e.1.trans rfl;clear e;refine⟨fun _=> ?_,fun c=>(by rw[show(E.s 191).B U2=ZB from b191]at c;cases c)⟩;refine aD _ hX trivial (fun e=> ?_);rw[show sP_lvsound.F 6=c_yhas.F from rfl,aup,RJ]at e;have b192:U2.b 192=ZB:=e.1.trans rfl;clear e;refine⟨fun _=>bc ?_,fun c=>(by rw[show(E.s 192).B U2=ZB from b192]at c;cases c)⟩;have iE:(E.f .add .i64 (.w 18) (.p 1)).I U2=((n+1:Nat):Int):=by simp only[E.I,Br];exact GF K1 r4
 refine⟨⟨n+1,by simp only[E.D,iE],K1⟩,?_⟩;show S.length-((E.f .add .i64 (.w 18) (.p 1)).I U2).toNat<S.length-(U2.i 18).toNat;rw[iE,Br];omega
def acW(xs:List Dt)(vals:List Value)(w:World)(hw:nB w [.agg kProg,.one (.sl [ZA .u8] 5),.one (.sl [ZA .u64] 39),.one (.int .i64)] xs vals)(hh:Jr w):Calls ZF 3 vals.toArray w fun e w'=>∃v,e=.returned v/\RetOk [.one .bool] ZC w w' (kK xs) v:=
 (xp (by kernel_rfl) aek (EJ (ala rfl rfl)<|EJ (apu rfl)<|EJ (agE rfl rfl)<|EJ (alb rfl rfl)<|EJ (avd rfl rfl)<|EJ (atc rfl rfl)<|EJ (asX rfl rfl) Vn) func3 EZ acV (pre:=fun _=>True) (gX fun p gp=>fun cx gcx an gan fu gfu hp=>acT p gp cx gcx an gan fu gfu) xs vals w hw trivial hh).2
def rwU8:Rw ZF 5 [ZA .u8]:=Rw.int .u8 underlying5 (by kernel_rfl)
def rwU:Rw ZF 39 [ZA .u64]:=Rw.int .u64 underlying39 (by kernel_rfl)
def qt{enc:TypeId×Value->H}{r:Reach}{b0:Nat}(v0:Value)(k0:Value.okWide ZF W r b0 24 v0)(d0:DataW H)(p0:List MemPlace)(h0:DataW.Trod enc ZF W 0 (fun _=>ZB) ZB 24 v0 d0 p0)(_:∀x∈p0,x.block<W.heap.size)(v1:Value)(k1:Value.okWide ZF W r b0 25 v1)(d1:DataW H)(p1:List MemPlace)(h1:DataW.Trod enc ZF W 0 (fun _=>ZB) ZB 25 v1 d1 p1)(_:∀x∈p1,x.block<W.heap.size)(v2:Value)(k2:Value.okWide ZF W r b0 26 v2)(d2:DataW H)(p2:List MemPlace)(h2:DataW.Trod enc ZF W 0 (fun _=>ZB) ZB 26 v2 d2 p2)(_:∀x∈p2,x.block<W.heap.size)(a3:Int)(w3:(Lit.int .i64 a3).wf=ZB)(hh:Jr W):
  Calls ZF 3 #[v0,v1,v2,.int .i64 a3] W fun e W'=>e=.returned (.bool ZB)/\Below W.heap.size W W':=by
 obtain⟨a0,q0,s0,rfl,w0,n0,m0,o0,l0⟩:=Prog.of_arg k0 h0;obtain⟨q1,s1,rfl,n1,m1,o1,l1⟩:=vM rwU8 ST underlying25 k1 h1;obtain⟨q2,s2,rfl,n2,m2,o2,l2⟩:=vM rwU ST underlying26 k2 h2;refine(acW ([.z a0,.l q0,.l q1,.l q2,.z a3]) _ W ⟨_,_,_,rfl,⟨_,_,_,rfl,⟨_,rfl,rfl,w0⟩,⟨_,_,_,rfl,⟨_,_,rfl,rfl,n0,m0,o0,l0⟩,⟨rfl,rfl⟩⟩⟩,⟨_,_,_,rfl,⟨_,_,rfl,rfl,n1,m1,o1,l1⟩,⟨_,_,_,rfl,⟨_,_,rfl,rfl,n2,m2,o2,l2⟩,⟨_,_,_,rfl,⟨_,rfl,rfl,(xk w3)⟩,⟨rfl,rfl⟩⟩⟩⟩⟩ hh).mono fun e W' ⟨v,he,hr⟩=> ?_;have hv:v=.bool ZB:=RetOk.says hr;rw[he,hv];exact⟨rfl,hr.ext⟩
end Go.Proofs.YtgolejfhoefeaaaGreatDoor
