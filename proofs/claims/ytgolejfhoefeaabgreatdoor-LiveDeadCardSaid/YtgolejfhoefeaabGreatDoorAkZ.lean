import Derived.Test.YtgolejfhoefeaabGreatDoorAiZ
import Derived.Test.YtgolejfhoefeaabGreatDoorAhZ
import Derived.Test.YtgolejfhoefeaabGreatDoorProg
import Derived.Laws.Externs
import Derived.Lib.SmallJoins
import Derived.Test.YtgolejfhoefeaabGreatDoorRows
import Derived.Test.YtgolejfhoefeaabGreatDoorVzC
set_option maxRecDepth 100000
set_option maxHeartbeats 8000000
set_option linter.defProp false
set_option linter.unusedVariables false
set_option linter.unusedSimpArgs false
namespace Go.Proofs.YtgolejfhoefeaabGreatDoor
open Option renaming some->ZA,none->ZD
open Bool renaming true->ZB,false->ZC
open Nat renaming reduceAdd->ZE,reduceSub->YI
open Go.Proofs.Tryz renaming prog->ZF
open Int renaming ofNat_lt->YP
open Go.Proofs.Tryz
open Go.RowKit Go.ChangeShapes Go.WideShapes
variable {n:Nat}{H:Type}{W:World}
def pE:List C:=[.int .i64 (.p 0),.int .i64 (.p 0)]
def al5:Tryz.prog.eqGuardType Tryz.prog.depth 82=ZC:=by kernel_rfl
def yj:Tryz.prog.cellsOf 82=2:=by kernel_rfl
def aao:Tryz.prog.cellsOf 3=1:=by kernel_rfl
def aie(vs:List Value)(hv:aD vs pE):Tryz.prog.keyLits 6 82 vs=ZA (cD vs):=by obtain⟨x0,_,rfl,g0,hv⟩:=ah hv;obtain⟨x1,_,rfl,g1,hv⟩:=ah hv;obtain rfl:=bz hv;simp[Program.keyLits,List.range,List.range.loop,underlying82,underlying3,yj,aao,xR,cD,g0,g1]
def ai0(vs:List Value)(hv:aD vs pE):(Value.agg vs.toArray).formed ZF 82=ZB:=by obtain⟨x0,_,rfl,g0,hv⟩:=ah hv;obtain⟨x1,_,rfl,g1,hv⟩:=ah hv;obtain rfl:=bz hv;kernel_rfl
def arW(vs us:List Value)(hv:aD vs pE)(hu:aD us pE)(w:World):(Op.equal 82 (.agg vs.toArray) (.agg us.toArray)).run ZF w=.ok (CB vs us) w:=fU (by kernel_rfl) ai0 6 aie vs us hv hu w
def alG(vs:List Value)(hv:aD vs pE)(b:Bool)(w:World):(Instr.checkKey b 10000 82 (.agg vs.toArray)).run ZF w=.ok () w:=run_checkKey_deep b 9994 6 82 (by kernel_rfl) w 6 (.agg vs.toArray) _ (ai0 vs hv) (aie vs hv)
def di:=aI Ins.eta (Prog.eta)
def R0{p q q2:Prop}(k:q2)(h:p->q=q2:=by intro e;(try simp only[e,di,ai,-eq_self]);rfl):p->q:=fun e=>(h e).symm▸k
def aff:List (Nat×TI):=[(3,C1),
 (4,EM),
 (22,vT),
 (24,vS),
 (33,OJ),
 (36,Pk),
 (39,hZ),
 (41,rK),
 (80,⟨ZC,1,[.nmp],[],ZD,ZD,ZC,ZC,ZD,8,ZC,ZA (82,4),ZC,0⟩),
 (82,⟨ZB,2,[.int .i64 (.p 0),.int .i64 (.p 0)],[],ZA (2,3),ZD,ZB,ZC,ZD,16,ZC,ZD,ZB,0⟩)]
def vQ:∀t i,(t,i)∈aff->TIok ZF t i:=bK (Ed (z:=lR) ⟨lb,ij⟩<|Ed (z:=pE) ⟨arW,al5⟩ Ch) (Ed (z:=pE) (fun vs hv=>alG vs hv) Ch) (by kernel_rfl)
def mm:List Dt->Prop
 |[.z x0,.l x1,.z x2]=>let f (p:Prog) (i:Int):Prop:=(0<=i/\i<p.l.length)/\p.l.length<=maxLen;f ⟨x0,x1⟩ x2
 |_=>False
def c_lnext:Cd:=⟨18,[.ptr kProg,.one (.int .i64)],[.one (.sl [ZA .i64] 3)],rd_Prog fun p=>rdZ fun i _=>[.l (gr p i)],mm⟩
def Vu:Tr:=(.u (.N (.lq .ln (.cons (.f .add .i64 (.w 2) (.p 1)) .nil)) .nil))
def Vv:Tr:=(.br (.s 4)
(.u (.N (.lq .ln (.cons (.w 3) .nil)) .nil))
(.u (.N .ln .nil)))
def abB:Tr:=
(.br (.lt (.w 2) (.p 0))
.panic
(.br (.lt (.w 2) (.len (.g 1)))
(.call 0 [.int .i64,.bool] (.cons (.w 2) (.ins (.g 1) (.w 2) .nil)) 3
(.br (.eq (.get (.g 1) (.w 2) 0) (.p 4))
 Vv
(.br (.eq (.get (.g 1) (.w 2) 0) (.p 6))
 Vv
(.br (.s 4)
(.br (.eq (.w 3) (.f .add .i64 (.w 2) (.p 1)))
 Vu
(.u (.N (.lcat (.lq .ln (.cons (.mn (.w 3) (.f .add .i64 (.w 2) (.p 1))) .nil)) (.lq .ln (.cons (.mx (.w 3) (.f .add .i64 (.w 2) (.p 1))) .nil))) .nil)))
 Vu))))
.panic))
def arq:c_lnext.Ok ZF:=
 A4 (hl:=.inr (.inl ⟨(fun xs (h:mm xs) L hL=>by unfold mm at h;split at h<;>first|exact h.elim|(simp at hL;subst hL;exact h.2)),rfl⟩)) abB (v_Prog [.int .i64]) vQ (Aq R5 AR) func18<|fQ fun p hp=>fun i hi hp ρ g=>by
 simp only[c_lnext,mm,df,b2i_one,di,ai]at hp;simp only[df,eD,AT,ZE]at g;simp only[abB,Vv,Vu,c_itgt,c_lnext,df,eD,Am,YI,ZE,-eq_self,di,ai,g];apply aI<;>intro c0
 .have:=Ae c0;omega
 apply aI<;>intro c1;refine R0 ?_;apply aI<;>intro c2;apply aI<;>intro c3
 .unfold gr;rw[aa (fun h=>h.1 (Bs c2)),ae c3];try rfl
 .unfold gr;rw[aa (fun h=>h.1 (Bs c2)),aa (by rw[c3];simp)];try rfl
 apply aI<;>intro c4;apply aI<;>intro c5
 .unfold gr;rw[aa (fun h=>h.2 (Bs c4)),ae c5];try rfl
 .unfold gr;rw[aa (fun h=>h.2 (Bs c4)),aa (by rw[c5];simp)];try rfl
 apply aI<;>intro c6;apply aI<;>intro c7
 .unfold gr;rw[ae ⟨BM c2,BM c4⟩,aa (fun h=>h.2 (Bs c7))];try rfl
 .unfold gr;rw[ae ⟨BM c2,BM c4⟩,ae ⟨c6,BM c7⟩];try rfl
 .unfold gr;rw[ae ⟨BM c2,BM c4⟩,aa (fun h=>ak h.1 (by rw[c6];simp))];try rfl
 .have:=Af c1;omega
def nQ:List Dt->Prop
 |[.z x0,.l x1]=>let f (pr:Prog):Prop:=pr.l.length<=maxLen;f ⟨x0,x1⟩
 |_=>False
def c_lrun:Cd:=⟨7,[.agg kProg],[.one (.sl [ZA .i64] 3),.one (.sl [ZA .i64] 3),.one (.int .i64)],rd_Prog fun pr _=>[.l ((D2 pr).1.1),.l ((D2 pr).1.2),.z ((D2 pr).2)],nQ⟩
def Vq:E:=(.mix (.g 8) (.cons (.w 4) (.cons (.get (.g 6) (.w 7) 0) .nil)))
def Vr:E:=(.cons (.w 4) (.cons (.get (.g 6) (.w 7) 0) (.j (.tt ZB) .nil)))
def Vs:E:=(.f .or .i64 (.f .andNot .i64 (.get (.g 8) (.w 10) 0) (.w 13)) (.w 14))
def Vt:E:=(.N (.lset (.g 12) (.w 10) 0 Vs) .nil)
def zm:Tr:=
(.call 0 [.int .i64,.int .i64] (.cons (.w 0) (.N (.g 1) .nil)) 2
(.br (.eq (.w 3) (.p 0))
(.br (.lt (.len (.g 1)) (.p 1073741824))
(.loop 0 4 [.int .i64,.list [ZA .i64,ZA .i64,ZD]] (.cons (.p 0) (.N .ln .nil))
(.br (.lt (.w 4) (.len (.g 1)))
(.call 1 [.sl [ZA .i64] 3] (.cons (.w 0) (.N (.g 1) (.cons (.w 4) .nil))) 6
(.loop 1 7 [.int .i64,.list [ZA .i64,ZA .i64,ZD]] (.cons (.p 0) (.N (.g 5) .nil))
(.br (.lt (.w 7) (.len (.g 6)))
(.br (.lt (.w 7) (.p 0))
.panic
(.br (.lt Vq (.len (.g 8)))
(.next 1 (.cons (.f .add .i64 (.w 7) (.p 1)) (.N (.lput (.g 8) Vq Vr) .nil)))
(.br (.lt (.len (.g 8)) (.p 1073741824))
(.next 1 (.cons (.f .add .i64 (.w 7) (.p 1)) (.N (.lq (.g 8) Vr) .nil)))
(.stuck 130))))
(.next 0 (.cons (.f .add .i64 (.w 4) (.p 1)) (.N (.g 8) .nil))))))
(.loop 1 6 [.list [ZA .i64],.list [ZA .i64]] (.N (.lrep (.len (.g 1)) (.cons (.p 0) .nil)) (.N (.lrep (.len (.g 1)) (.cons (.p 0) .nil)) .nil))
(.loop 2 8 [.list [ZA .i64],.list [ZA .i64]] (.N (.g 7) (.N .ln .nil))
(.br (.lt (.len (.g 9)) (.len (.g 5)))
(.any 10 (.and (.not (.lt (.w 10) (.p 0))) (.and (.lt (.w 10) (.len (.g 5))) (.not (.lt (.mix (.g 9) (.cons (.w 10) .nil)) (.len (.g 9))))))
(.br (.lt (.get (.g 5) (.w 10) 0) (.p 0))
.panic
(.br (.lt (.get (.g 5) (.w 10) 0) (.len (.g 8)))
(.br (.lt (.get (.g 5) (.w 10) 1) (.p 0))
.panic
(.br (.lt (.get (.g 5) (.w 10) 1) (.len (.g 6)))
(.next 2 (.N (.lset (.g 8) (.get (.g 5) (.w 10) 0) 0 (.f .or .i64 (.get (.g 8) (.get (.g 5) (.w 10) 0) 0) (.get (.g 6) (.get (.g 5) (.w 10) 1) 0))) (.N (.lq (.g 9) (.cons (.w 10) .nil)) .nil)))
.panic))
.panic)))
(.loop 3 10 [.int .i64,.bool,.list [ZA .i64]] (.cons (.p 0) (.j (.tt ZC) (.N (.g 6) .nil)))
(.br (.lt (.w 10) (.len (.g 1)))
(.br (.lt (.w 10) (.p 0))
.panic
(.br (.lt (.w 10) (.len (.g 8)))
(.call 3 [.int .i64] (.ins (.g 1) (.w 10) .nil) 13
(.call 2 [.int .i64] (.ins (.g 1) (.w 10) .nil) 14
(.br (.s 11)
(.br (.lt (.w 10) (.len (.g 12)))
(.next 3 (.cons (.f .add .i64 (.w 10) (.p 1)) (.j (.tt ZB) Vt)))
.panic)
(.br (.lt (.w 10) (.len (.g 12)))
(.next 3 (.cons (.f .add .i64 (.w 10) (.p 1)) (.j (.not (.eq Vs (.get (.g 12) (.w 10) 0))) Vt)))
.panic))))
.panic))
(.br (.s 11)
(.next 1 (.N (.g 12) (.N (.g 8) .nil)))
(.u (.N (.g 12) (.N (.g 8) (.cons (.p 0) .nil))))))))))))
.panic)
(.u (.N .ln (.N .ln (.cons (.w 3) .nil))))))
def aqh:cG aff (FH 0 [c_icheck,c_lnext,c_vrd,c_vwr]) [] [(7,[.tmpI 36 .i64,.row 4]++Eb [(8,1),(10,1),(37,15)]),(10,[.tmpI 42 .i64,.row 4]++Eb [(10,1),(43,8)]),(15,[.row 2,.row 3]++Eb [(11,5),(52,52)]),(17,[.row 3,.row 5]++Eb [(12,1),(54,16)]),(21,[.tmpI 73 .i64,.tmpB 11,.row 2]++Eb [(13,3),(74,28)])] [] 200 f7 c_lrun.a c_lrun.r (tp c_lrun.r) (v_Prog []) zm:=FJ (by kernel_rfl)
def anO:c_lrun.Ok ZF:=
 GJ (hl:=.inr (.inl ⟨(fun xs (h:nQ xs) L hL=>by unfold nQ at h;split at h<;>first|exact h.elim|(simp at hL;subst hL;exact h)),rfl⟩)) zm (v_Prog []) vQ (Aq vg<|Aq arq<|Aq atT<|Aq avL AR) func7 FD aqh<|fQ fun pr hpr hp ρ g=>by
 simp only[c_lrun,nQ,df,b2i_one,di,ai]at hp;have As:=g;simp only[df,eD,AT,ZE]at g;simp only[zm,Vt,Vs,Vr,Vq,c_icheck,c_lnext,c_vrd,c_vwr,c_lrun,ge,mm,df,eD,Am,YI,ZE,-eq_self,di,ai,g];obtain⟨LY,Fp⟩:=g;refine⟨?_,?_⟩
 .exact hp
 refine R0 ?_;apply aI<;>intro c0;apply aI<;>intro c1;have Ai:=Bs c0;obtain⟨⟨_,n1,Tu⟩,_,_⟩:=bj hp Ai;refine⟨fun ds=>∃(m:Nat) (ws:LL),ds=[.z (m:Int),.l ws]/\m<=pr.l.length/\Ways pr m 0 ws,fun ds=>pr.l.length-(dI ds 0).toNat,⟨0,[],rfl,Nat.zero_le _,.nil pr⟩,?_⟩;intro ρ1 A7 _ Bm;obtain⟨m,ws,Bw,hm,hW⟩:=Bm;simp only[AY,Iv,and_true]at Bw;obtain⟨L3,L4⟩:=Bw;have LZ:=kI A7 LY;have Gk:=kL A7 Fp;simp only[LZ,Gk,L3,L4,ai,-eq_self];apply aI<;>intro c2;refine⟨?_,?_⟩
 .exact⟨⟨Int.natCast_nonneg m,Ae c2⟩,hp⟩
 intro e;have QD:ρ1.l 6=gr pr (m:Int):=e;(try simp only[e,di,ai,-eq_self]);clear e;have Jt:m<pr.l.length:=YP.1 (Ae c2);have GD:(gr pr (m:Int)).length<=2:=by obtain⟨q1,q2,_⟩:=uY hp Ai Jt;rw[q1,List.length_map];exact q2
 have hn3:(gr pr (m:Int)).length=(nx pr m).length:=by unfold nx;simp
 refine⟨fun ds=>∃(j:Nat) (Ml:LL),ds=[.z (j:Int),.l Ml]/\j<=(gr pr (m:Int)).length/\Ways pr m j Ml,fun ds=>(gr pr (m:Int)).length-(dI ds 0).toNat,⟨0,ws,rfl,Nat.zero_le _,hW⟩,?_⟩;intro ρ2 DO _ Hi;obtain⟨j,ws2,Bw,hj,Tb⟩:=Hi;simp only[AY,Iv,and_true]at Bw;obtain⟨QF,QH⟩:=Bw;have QE:=kI DO L3;have QG:=kL DO QD;simp only[QE,QG,QF,QH,ai,-eq_self];apply aI<;>intro c3;apply aI<;>intro c4
 .have q:=Ae c4;omega
 apply aI<;>intro c5
 .have IA:=YP.1 (Ae c3);obtain⟨x,y1,y2,y3⟩:=acj hp Ai Jt IA;rw[y2]at c5 ⊢;exact⟨⟨j+1,_,(by rw[DV IA (cO GD Os)];try rfl),IA,Tb.put y1 (Ae c5)⟩,by rw[DV IA (cO GD Os)];show(gr pr (m:Int)).length-(((j+1:Nat):Int)).toNat<(gr pr (m:Int)).length-((j:Int)).toNat;omega⟩
 apply aI<;>intro c6
 .have IA:=YP.1 (Ae c3);obtain⟨x,y1,y2,y3⟩:=acj hp Ai Jt IA;rw[y2];exact⟨⟨j+1,_,(by rw[DV IA (cO GD Os)];try rfl),IA,Tb.app y1⟩,by rw[DV IA (cO GD Os)];show(gr pr (m:Int)).length-(((j+1:Nat):Int)).toNat<(gr pr (m:Int)).length-((j:Int)).toNat;omega⟩
 .have q:=Af c6;have:=Tb.len;omega
 .show _/\_;exact⟨⟨m+1,ws2,by rw[DV Jt hp],Jt,Tb.out (by have:=Af c3;omega) (hn3▸GD)⟩,by rw[DV Jt hp];show pr.l.length-(((m+1:Nat):Int)).toNat<pr.l.length-((m:Int)).toNat;omega⟩
 have La:m=pr.l.length:=by have:=Af c2;omega
 rw[La]at hW;refine⟨fun ds=>∃(I O:List BV) (f:Nat),ds=[.l (dA I),.l (dA O)]/\Inv pr I O/\Jg I<f/\oU pr=Hr pr f I O,fun ds=>mu (dL ds 0),⟨List.replicate pr.l.length 0,List.replicate pr.l.length 0,1180591620717411303425,by rw[<-ala];rfl,.zero pr,by rw[Up];omega,rfl⟩,?_⟩;intro ρ3 Gs _ KK;obtain⟨I,O,f,Bw,hV,hf,hr⟩:=KK;simp only[AY,Iv,and_true]at Bw;obtain⟨L9,QI⟩:=Bw;have L5:=kI Gs LZ;have L7:=kL Gs Gk;have L8:=kL Gs L4;simp only[L5,L7,L8,L9,QI,ai,-eq_self];refine⟨fun ds=>∃(L V:LL),ds=[.l L,.l V]/\Seen pr I O ws L V,fun ds=>ws.length-(dL ds 1).length,⟨dA O,[],rfl,.init pr I O ws hV.lo⟩,?_⟩;intro ρ4 HV _ K9;obtain⟨L,V,Bw,hS⟩:=K9;simp only[AY,Iv,and_true]at Bw;obtain⟨II,Mc⟩:=Bw;have Kr:=kI HV L5;have Ks:=kL HV L7;have Ma:=kL HV L8;have Mb:=kL HV L9;simp only[Kr,Ks,Ma,Mb,II,Mc,ai,-eq_self];apply aI<;>intro c7;intro ρ5 FP hz5 hc5;have QJ:=kI FP Kr;have QK:=kL FP Ks;have Md:=kL FP Ma;have QL:=kL FP Mb;have QM:=kL FP II;have Me:=kL FP Mc;simp only[Md,Me,ne,Bool.not_eq_true']at hc5;obtain⟨q1,q2,q3⟩:=hc5;replace q1:=Af q1;replace q2:=Ae q2;replace q3:=Af q3;obtain⟨v,Kt⟩:=cj (bR.1 q1);rw[Kt]at q2 q3;have Lg:=YP.1 q2;obtain⟨a,b,PS,Tn⟩:=hW.snd _ (List.getElem_mem Lg);have PS:a<pr.l.length/\b∈nx pr a:=PS.elim id (fun h=>by simp at h);have hw5:ws[v]? =ZA [(a:Int),(b:Int),1]:=by rw[Az Lg,Tn]
 have Xj:=(uY hp Ai PS.1).2.2 b PS.2;have g0:gt ws (v:Int) 0=(a:Int):=by simp[gt,hw5]
 have g1:gt ws (v:Int) 1=(b:Int):=by simp[gt,hw5]
 have hLl:=hS.len;simp only[QJ,QK,Md,QL,QM,Me,Kt,ai,g0,g1,-eq_self];apply aI<;>intro c8
 .have q:=Ae c8;omega
 apply aI<;>intro c9;apply aI<;>intro CA
 .have q:=Ae CA;omega
 apply aI<;>intro DD
 .exact⟨⟨_,_,rfl,hS.step hV.li (aqV q3) hw5 PS.1 Xj⟩,by have:=Ae c7;show ws.length-(V++[[(v:Int)]]).length<ws.length-V.length;rw[cQ];show ws.length-(V.length+1)<_;omega⟩
 .have q:=Af DD;have:=hV.li;simp only[mq]at q;omega
 .have q:=Af c9;omega
 have hL:=hS.done hW (fun h=>Af c7 (YP.2 h));rw[hL]at II
 try rw[hL]
 refine⟨fun ds=>∃(i:Nat) (b:Bool) (L:LL),ds=[.z (i:Int),.z (Ay b),.l L]/\i<=pr.l.length/\Wrote pr I (FI pr I O) i b L,fun ds=>pr.l.length-(dI ds 0).toNat,⟨0,ZC,dA I,rfl,Nat.zero_le _,.init _ _ _⟩,?_⟩;intro ρ6 Gt _ I5;obtain⟨i,b,L6,Bw,I5,hR⟩:=I5;simp only[AY,Iv,and_true]at Bw;obtain⟨NG,NE,NI⟩:=Bw;have QN:=kI Gt Kr;have QO:=kL Gt Ks;have QP:=kL Gt II;simp only[QN,QO,QP,NG,NE,NI,ai,-eq_self];have hLl:=hR.len hV.li I5;apply aI<;>intro Cp;apply aI<;>intro C9
 .have q:=Ae C9;omega
 apply aI<;>intro DE;refine R0 ?_;refine R0 ?_;apply aI<;>intro DI;apply aI<;>intro Ew
 .have Iz:=YP.1 (Ae Cp);have K3:=hR.step hV.li (nH _ _ _) Iz;rw[DI,Bool.true_or]at K3;exact⟨⟨i+1,_,_,(by rw[DV Iz hp];try rfl),Iz,K3⟩,by rw[DV Iz hp];show pr.l.length-(((i+1:Nat):Int)).toNat<pr.l.length-((i:Int)).toNat;omega⟩
 .have q:=Af Ew;have q0:=Ae Cp;omega
 apply aI<;>intro Ec
 .have Iz:=YP.1 (Ae Cp);have K3:=hR.step hV.li (nH _ _ _) Iz;rw[DI,Bool.false_or]at K3;exact⟨⟨i+1,_,_,(by rw[DV Iz hp];try rfl),Iz,K3⟩,by rw[DV Iz hp];show pr.l.length-(((i+1:Nat):Int)).toNat<pr.l.length-((i:Int)).toNat;omega⟩
 .have q:=Af Ec;have q0:=Ae Cp;omega
 .have q:=Af DE;have:=nH pr I O;have q0:=Ae Cp;simp only[mq]at q;omega
 apply aI<;>intro DJ
 .show _/\_;have hD:=hR.done hV.li (by have:=Af Cp;omega);have Bg:=hD.2.1 DJ;rw[hD.1];exact⟨⟨_,_,f-1,rfl,hV.step,by have:=hV.mu Bg;omega,by rw[hr];obtain⟨f,rfl⟩:∃g,f=g+1:=⟨f-1,by omega⟩;rw[Hr,aa Bg];rfl⟩,by show mu (dA _)<mu (dA _);rw[ahS,ahS];exact hV.mu Bg⟩
 .have hD:=hR.done hV.li (by have:=Af Cp;omega);have he:Gb pr (FI pr I O)=I:=Classical.byContradiction fun h=>by rw[hD.2.2 h]at DJ;cases DJ
  have hE:oU pr=(I,FI pr I O):=by rw[hr];obtain⟨f,rfl⟩:∃g,f=g+1:=⟨f-1,by omega⟩;rw[Hr,ae he]
  unfold D2;rw[ae Ai,hE,hD.1,he];try rfl
 .have q:=Af c1;have:=(bj hp (Bs c0)).1.2.2;omega
 .unfold D2;rw[aa (BM c0)];try rfl
def apI:List (Nat×TI):=[(3,C1),
 (4,EM),
 (22,vT),
 (24,vS),
 (33,OJ),
 (36,Pk),
 (39,hZ),
 (41,rK)]
def vP:∀t i,(t,i)∈apI->TIok ZF t i:=bK (Ed (z:=lR) ⟨lb,ij⟩ Ch) Ch (by kernel_rfl)
def jL:List Dt->Prop
 |[.z x0,.l x1]=>let f (pr:Prog):Prop:=pr.l.length<=maxLen;f ⟨x0,x1⟩
 |_=>False
def c_lgreat:Cd:=⟨4,[.agg kProg],[.one .bool],rd_Prog fun pr _=>[.z (Ay (decide ((100:Int)<(pr.l.length:Int))))],jL⟩
def wT:Tr:=
(.u (.j (.lt (.p 100) (.len (.g 1))) .nil))
def alT:c_lgreat.Ok ZF:=
 A4 (hl:=.inr (.inl ⟨(fun xs (h:jL xs) L hL=>by unfold jL at h;split at h<;>first|exact h.elim|(simp at hL;subst hL;exact h)),rfl⟩)) wT (v_Prog []) vP AR func4<|fQ fun pr hpr hp ρ g=>by
 simp only[c_lgreat,jL,df,b2i_one,di,ai]at hp;simp only[df,AT,ZE]at g;simp only[wT,c_lgreat,df,Am,YI,ZE,-eq_self,di,ai,g]
 .try rfl
def c_lwakes:Cd:=⟨5,[],[.one .bool],fun _=>[.z (Ay ZB)],T0⟩
def wS:Tr:=
(.call 0 [.sl [ZA .i64] 3,.sl [ZA .i64] 3,.int .i64] (.cons (.p 0) (.N (.lcat (.lq .ln (.zs [0,11,64,0] (.j (.tt ZB) (.zs [0,1,0,0] .nil)))) (.lq .ln (.zs [6,0,0,0] (.j (.tt ZC) (.zs [0,0,0,0] .nil))))) .nil)) 0
(.br (.eq (.w 2) (.p 0))
(.br (.eq (.len (.g 0)) (.p 2))
(.br (.eq (.len (.g 1)) (.p 2))
(.br (.lt (.p 0) (.len (.g 0)))
(.br (.eq (.get (.g 0) (.p 0) 0) (.p 2))
(.br (.lt (.p 0) (.len (.g 1)))
(.br (.eq (.get (.g 1) (.p 0) 0) (.p 1))
(.br (.lt (.p 1) (.len (.g 1)))
(.u (.j (.eq (.get (.g 1) (.p 1) 0) (.p 0)) .nil))
.panic)
 zlF)
.panic)
 zlF)
.panic)
 zlF)
 zlF)
 zlF))
def alS:c_lwakes.Ok ZF:=
 A4 wS [] vP (Aq anO AR) func5<|fun hp ρ g=>by
 simp only[wS,c_lrun,c_lwakes,nQ,df,Am,YI,ZE,-eq_self,di,ai];refine⟨?_,?_⟩
 .exact Os
 intro e;have e:ρ.l 0=[[2],[1]]/\ρ.l 1=[[1],[0]]/\ρ.i 2=0:=⟨e.1.trans (congrArg (fun z=>z.1.1) oa),e.2.1.trans (congrArg (fun z=>z.1.2) oa),e.2.2.trans (congrArg (fun z=>z.2) oa)⟩;(try simp only[e,di,ai,-eq_self]);clear e;apply aI<;>intro c0;apply aI<;>intro c1;apply aI<;>intro c2;apply aI<;>intro c3;apply aI<;>intro c4;apply aI<;>intro c5;apply aI<;>intro c6;apply aI<;>intro c7
 .rfl
 .cases c7
 .cases c6
 .cases c5
 .cases c4
 .cases c3
 .cases c2
 .cases c1
 .cases c0
open Go
def cz(x:Ins):Ins:=
 if x.k=0 then⟨x.k,x.op,x.w,0,x.br &&!(x.op==8),x.d,if x.br=ZB/\x.op≠8 then x.s else 0,0,if x.br=ZB\/x.op=8 then 0 else x.imm⟩
 else if x.k=1\/x.k=2 then⟨x.k,0,0,x.sz,ZC,x.d,x.s,x.off,0⟩
 else if x.k=3 then⟨x.k,x.op,0,0,x.br,x.d,if x.br=ZB then x.s else 0,x.off,if x.br=ZB then 0 else x.imm⟩
 else if x.k=4 then⟨x.k,0,0,0,ZC,0,0,x.off,0⟩
 else if x.k=5 then⟨x.k,0,0,0,ZC,0,0,0,x.imm⟩
 else⟨x.k,0,0,0,ZC,0,0,0,0⟩
def cM(x:Ins):Bool:=
 if x.k=0 then(!decide (x.op<0))&&((!decide (12<x.op))&&((x.w==32||x.w==64)&&decide (x.d<10)))
 else if x.k=1 then bc x.sz&&decide (x.d<10)
 else if x.k=2 then bc x.sz
 else if x.k=3 then(!decide (x.op<0)) &&!decide (10<x.op)
 else if x.k=5 then(!decide (x.imm<0))&&decide (x.imm<16)
 else ZB
def cL(x y:Ins):Bool:=(x.k==y.k)&&((x.op==y.op)&&((x.w==y.w)&&((x.sz==y.sz)&&((x.br==y.br)&&((x.d==y.d)&&((x.s==y.s)&&((x.off==y.off)&&(x.imm==y.imm))))))))
def jm(x:Ins):Bool:=(!decide (x.k<0))&&((!decide (6<x.k))&&(cL x (cz x)&&((!decide (x.d<0))&&((!decide (10<x.d))&&((!decide (x.s<0))&&((!decide (10<x.s))&&((!decide (x.off < -32768))&&(decide (x.off<32768)&&((!decide (x.imm < -2147483648))&&(decide (x.imm<2147483648)&&cM x))))))))))
def aY(x:Ins):AL x=jm x:=by
 obtain⟨k,op,w,sz,br,d,s,off,imm⟩:=x;by_cases h0:k=0
 .subst h0;by_cases h8:op=8
  .subst h8;cases br<;>(rw[ar];simp[AL,jm,fJ,gv,cE,BF,cL,cz,cM];try omega)
  .cases br<;>(rw[ar];simp[AL,jm,fJ,gv,cE,BF,cL,cz,cM,h8];try omega)
 by_cases h1:k=1
 .subst h1;cases br<;>(rw[ar];simp[AL,jm,fJ,gv,cE,BF,cL,cz,cM];try (cases bc sz<;>simp<;>omega))
 by_cases h2:k=2
 .subst h2;cases br<;>(rw[ar];simp[AL,jm,fJ,gv,cE,BF,cL,cz,cM];try (cases bc sz<;>simp<;>omega))
 by_cases h3:k=3
 .subst h3;cases br<;>(rw[ar];simp[AL,jm,fJ,gv,cE,BF,cL,cz,cM];try omega)
 by_cases h4:k=4
 .subst h4;cases br<;>(rw[ar];simp[AL,jm,fJ,gv,cE,BF,cL,cz,cM];try omega)
 by_cases h5:k=5
 .subst h5;cases br<;>(rw[ar];simp[AL,jm,fJ,gv,cE,BF,cL,cz,cM];try omega)
 by_cases h6:k=6
 .subst h6;cases br<;>(rw[ar];simp[AL,jm,fJ,gv,cE,BF,cL,cz,cM];try omega)
 .have:¬(0<=k/\k<=6):=by omega
  rw[ar];simp[AL,jm,cE,h0,h1,h2,h3,h4,h5,h6];omega
def Uo{p q q2:Prop}(k:q2)(h:p->q=q2:=by intro e;(try simp only[e,di,ai,-eq_self]);rfl):p->q:=fun e=>(h e).symm▸k
def apJ:List (Nat×TI):=[(3,C1),
 (4,EM),
 (39,hZ),
 (41,rK)]
def pT:∀t i,(t,i)∈apJ->TIok ZF t i:=bK (Ed (z:=lR) ⟨lb,ij⟩ Ch) Ch (by kernel_rfl)
def c_jsz:Cd:=⟨22,[.one (.int .i8)],[.one .bool],rdZ fun n _=>[.z (Ay (bc n))],T0⟩
def ane:Tr:=
(.br (.eq (.w 0) (.p 1))
 zlT
(.br (.eq (.w 0) (.p 2))
 zlT
(.br (.eq (.w 0) (.p 4))
 zlT
(.u (.j (.eq (.w 0) (.p 8)) .nil)))))
def avU:c_jsz.Ok ZF:=
 A4 ane [.int .i8] pT AR func22<|fun n hn hp ρ g=>by
 simp only[AT,ZE]at g;simp only[ane,c_jsz,Am,YI,ZE,-eq_self,di,ai,g]
 .repeat' first|apply aI<;>intro c|exact Xu
def c_jfields:Cd:=⟨21,[.agg kIns],[.agg kIns],rd_Ins fun x _=>d_Ins (cz x) [],T0⟩
def Vp:Tr:=(.u (.cons (.w 0) (.cons (.p 0) (.cons (.p 0) (.cons (.w 3) (.j (.tt ZC) (.vs 5 3 (.cons (.p 0) .nil))))))))
def sr:Tr:=
(.br (.eq (.w 0) (.p 0))
(.br (.s 4)
(.br (.eq (.w 1) (.p 8))
(.u (.vs 0 3 (.cons (.p 0) (.j (.not (.eq (.w 1) (.p 8))) (.cons (.w 5) (.zs [0,0,0] .nil))))))
(.u (.vs 0 3 (.cons (.p 0) (.j (.not (.eq (.w 1) (.p 8))) (.vs 5 2 (.cons (.p 0) (.cons (.p 0) .nil))))))))
(.br (.eq (.w 1) (.p 8))
(.u (.vs 0 3 (.cons (.p 0) (.j (.tt ZC) (.cons (.w 5) (.zs [0,0,0] .nil))))))
(.u (.vs 0 3 (.cons (.p 0) (.j (.tt ZC) (.cons (.w 5) (.cons (.p 0) (.cons (.p 0) (.cons (.w 8) .nil))))))))))
(.br (.eq (.w 0) (.p 1))
 Vp
(.br (.eq (.w 0) (.p 2))
 Vp
(.br (.eq (.w 0) (.p 3))
(.br (.s 4)
(.u (.vs 0 2 (.cons (.p 0) (.cons (.p 0) (.j (.s 4) (.vs 5 3 (.cons (.p 0) .nil)))))))
(.u (.vs 0 2 (.cons (.p 0) (.cons (.p 0) (.j (.s 4) (.cons (.w 5) (.cons (.p 0) (.vs 7 2 .nil)))))))))
(.br (.eq (.w 0) (.p 4))
(.u (.cons (.w 0) (.zs [0,0,0] (.j (.tt ZC) (.cons (.p 0) (.cons (.p 0) (.cons (.w 7) (.cons (.p 0) .nil))))))))
(.br (.eq (.w 0) (.p 5))
(.u (.cons (.w 0) (.zs [0,0,0] (.j (.tt ZC) (.zs [0,0,0] (.cons (.w 8) .nil))))))
(.u (.cons (.w 0) (.zs [0,0,0] (.j (.tt ZC) (.zs [0,0,0,0] .nil)))))))))))
def aiu:c_jfields.Ok ZF:=
 A4 sr (v_Ins []) pT AR func21<|iY fun x hx hp ρ g=>by
 simp only[eD,AT,ZE]at g;simp only[sr,Vp,c_jfields,eD,Am,YI,ZE,-eq_self,di,ai,g]
 .repeat' first|apply aI<;>intro c|exact XF
def c_jmay:Cd:=⟨8,[.agg kIns],[.one .bool],rd_Ins fun x _=>[.z (Ay (AL x))],T0⟩
def ag0:Tr:=
(.br (.lt (.w 0) (.p 0))
 zlF
(.br (.lt (.p 6) (.w 0))
 zlF
(.call 1 (kIns) (.vs 0 4 (.j (.s 4) (.vs 5 4 .nil))) 9
(.br (.eq (.w 0) (.w 9))
(.br (.eq (.w 1) (.w 10))
(.br (.eq (.w 2) (.w 11))
(.br (.eq (.w 3) (.w 12))
(.br (.beq (.s 4) (.s 13))
(.br (.eq (.w 5) (.w 14))
(.br (.eq (.w 6) (.w 15))
(.br (.eq (.w 7) (.w 16))
(.br (.eq (.w 8) (.w 17))
(.br (.lt (.w 5) (.p 0))
 zlF
(.br (.lt (.p 10) (.w 5))
 zlF
(.br (.lt (.w 6) (.p 0))
 zlF
(.br (.lt (.p 10) (.w 6))
 zlF
(.br (.lt (.w 7) (.p (-32768)))
 zlF
(.br (.lt (.w 7) (.p 32768))
(.br (.lt (.w 8) (.p (-2147483648)))
 zlF
(.br (.lt (.w 8) (.p 2147483648))
(.br (.eq (.w 0) (.p 0))
(.br (.lt (.w 1) (.p 0))
 zlF
(.br (.lt (.p 12) (.w 1))
 zlF
(.br (.eq (.w 2) (.p 32))
(.u (.j (.lt (.w 5) (.p 10)) .nil))
(.br (.eq (.w 2) (.p 64))
(.u (.j (.lt (.w 5) (.p 10)) .nil))
 zlF))))
(.br (.eq (.w 0) (.p 1))
(.call 0 [.bool] (.cons (.w 3) .nil) 18
(.br (.s 18)
(.u (.j (.lt (.w 5) (.p 10)) .nil))
 zlF))
(.br (.eq (.w 0) (.p 2))
(.call 0 [.bool] (.cons (.w 3) .nil) 18
(.u (.j (.s 18) .nil)))
(.br (.eq (.w 0) (.p 3))
(.br (.lt (.w 1) (.p 0))
 zlF
(.u (.j (.not (.lt (.p 10) (.w 1))) .nil)))
(.br (.eq (.w 0) (.p 5))
(.br (.lt (.w 8) (.p 0))
 zlF
(.u (.j (.lt (.w 8) (.p 16)) .nil)))
 zlT)))))
 zlF))
 zlF))))))
 zlF)
 zlF)
 zlF)
 zlF)
 zlF)
 zlF)
 zlF)
 zlF)
 zlF))))
def auh:c_jmay.Ok ZF:=
 A4 ag0 (v_Ins []) pT (Aq avU<|Aq aiu AR) func8<|iY fun x hx hp ρ g=>by
 simp only[eD,AT,ZE]at g;simp only[ag0,c_jsz,c_jfields,c_jmay,eD,Am,YI,ZE,-eq_self,di,ai,g]
 .repeat' first|apply aI<;>intro c|refine Uo ?_|exact Id
def ady{P:Program}{t e:TypeId}{ks:List CE}(r:Rw P e ks)(Ej:0<ks.length)(ht:P.underlying t=ZA (.slice e)){enc:TypeId×Value->H}{hd:Bool}{v:Value}{fuel:Nat}{x:DataW H×List MemPlace}(hf:DataW.trod enc P W 0 (fun _=>ZB) hd fuel t [v]=ZA x):∃L s,v=s.v/\s.n=L.length/\RdRow W ks.length s (flat ks L)/\RowsIn ks L/\∀k,s.blk ZC=ZA k->k<W.heap.size:=by
 obtain⟨a0,Ht,IR,CJ⟩:=Go.Joins.slice_form ht hf;obtain rfl:v=.slice a0 Ht IR:=by simpa using CJ
 rcases Go.Deep.open_slice ht hf with⟨h1,_⟩|⟨a,len,Fg,m,n,D,Pl,h1,_,hl,hm,hmm,_,M9⟩
 .simp only[AY,Value.slice.injEq,and_true]at h1;obtain⟨rfl,rfl,rfl⟩:=h1;exact⟨[],⟨ZD,0,0,[]⟩,rfl,rfl,⟨by simp[flat],Nat.le_refl _,by simp[maxLen],fun _=>⟨rfl,rfl⟩,fun a ha=>(by cases ha)⟩,⟨fun r hr=>(by cases hr),by simp⟩,fun k hk=>by have:=ay hk;cases this⟩
 .simp only[AY,Value.slice.injEq,and_true]at h1;obtain⟨rfl,rfl,rfl⟩:=h1;have hmc:m=IR:=by rw[hmm];rfl
  subst hmc;rw[r.cells]at M9;have key:∀i,i<Ht->∃x,W.cells? 0 (a.add (i*ks.length)) ks.length=ZA (Ax ks x)/\aq ks x=ZB:=fun i hi=>by obtain⟨Gc,h1,h2⟩:=M9 i Fn;obtain⟨x,hx,ER⟩:=r.opn h2;exact⟨x,by rw[<-hx];exact h1,ER⟩
  obtain⟨L,hL,hq⟩:=ack key;have AG:∀x∈L,aq ks x=ZB:=fun x hx=>by obtain⟨i,hi,he⟩:=List.getElem_of_mem hx;exact(hq i x (by rw[Az hi,he])).2
  refine⟨L,⟨ZA a,Ht,m,[]⟩,rfl,hL.symm,⟨?_,hl,hm,fun ha=>(by cases ha),fun a' CN i u hu=> ?_⟩,⟨AG,by rw[hL];exact cO hl hm⟩,fun k hk=> ?_⟩
  .rw[bt AG,hL]
  .cases CN;have Ap:i<(flat ks L).length:=(bX.1 hu).1;rw[bt AG]at Ap;have hi:i / ks.length<L.length:=Nat.div_lt_of_lt_mul (by rw[Nat.mul_comm];exact Ap);have hc:i % ks.length<ks.length:=Nat.mod_lt _ Ej;have e1:i=i / ks.length*ks.length+i % ks.length:=by rw[Nat.mul_comm];exact(Nat.div_add_mod _ _).symm
   rw[e1,mX (Az hc) AG hi]at hu;obtain⟨q1,q2⟩:=hq (i / ks.length) L[i / ks.length] (Az hi);obtain⟨_,AE,CU⟩:=World.cells?_some q1;have h3:=CU (i % ks.length) hc;rw[pi q2 (Az hc)]at h3;have hg:L.getD (i / ks.length) []=L[i / ks.length]:=by rw[bh,Az hi];rfl
   rw[hg]at hu;rw[e1,<-bC,h3];exact hu
  .have hc:m≠0:=fun hc=>by
    unfold SV.blk at hk;simp[hc]at hk
   obtain⟨Gc,h1,h2⟩:=M9 0 Fn;have h4:=acV h1 Ej;have h5:=ay hk;simp only[SV.v,Value.ownBlock,aU]at h5;rw[<-h5];have:(a.add (0*ks.length)).block=a.block:=Yz;rw[<-this];exact h4.1
def Jj:Rw ZF 39 [ZA .i8]:=Rw.int .i8 underlying39 (by kernel_rfl)
def rwI64:Rw ZF 3 [ZA .i64]:=Rw.int .i64 underlying3 (by kernel_rfl)
def rwBo:Rw ZF 4 [ZD]:=Rw.bool underlying4 (by kernel_rfl)
def avz:Rw ZF 41 [ZA .i8,ZA .i8,ZA .i8,ZA .i8,ZD,ZA .i8,ZA .i8,ZA .i64,ZA .i64]:=by refine Rw.struct (ks:=[ZA .i8,ZA .i8,ZA .i8,ZA .i8,ZD,ZA .i8,ZA .i8,ZA .i64,ZA .i64]) ?_ underlying41 (by kernel_rfl);exact(RwSeq.cons (ks:=[ZA .i8]) Jj (by rfl) (RwSeq.cons (ks:=[ZA .i8]) Jj (by rfl) (RwSeq.cons (ks:=[ZA .i8]) Jj (by rfl) (RwSeq.cons (ks:=[ZA .i8]) Jj (by rfl) (RwSeq.cons (ks:=[ZD]) rwBo (by rfl) (RwSeq.cons (ks:=[ZA .i8]) Jj (by rfl) (RwSeq.cons (ks:=[ZA .i8]) Jj (by rfl) (RwSeq.cons (ks:=[ZA .i64]) rwI64 (by rfl) (RwSeq.cons (ks:=[ZA .i64]) rwI64 (by rfl) (RwSeq.nil _ _))))))))))
def Prog.of_arg{enc:TypeId×Value->H}{hd:Bool}{v:Value}{d:DataW H}{p:List MemPlace}{rc:Reach}{b0:Nat}(hv:Value.okWide ZF W rc b0 24 v)(h:DataW.Trod enc ZF W 0 (fun _=>ZB) hd 24 v d p):∃(c:Int) (L:List (List Int)) (s:_),v=.agg #[.int .i64 c,SV.v s]/\Aj .i64 c=ZB/\s.n=L.length/\RdRow W 9 s (flat [ZA .i8,ZA .i8,ZA .i8,ZA .i8,ZD,ZA .i8,ZA .i8,ZA .i64,ZA .i64] L)/\RowsIn [ZA .i8,ZA .i8,ZA .i8,ZA .i8,ZD,ZA .i8,ZA .i8,ZA .i64,ZA .i64] L/\∀k,s.blk ZC=ZA k->k<W.heap.size:=by
 obtain⟨v0,v1,y0,y1,n,rfl,_,_,h0,h1⟩:=Go.Joins.open_agg2 underlying24 (by kernel_rfl) (by kernel_rfl) hv h;obtain⟨q,e0,hq⟩:=rwI64.opn h0;obtain⟨L,s,rfl,h2,h3,h4,h5⟩:=ady avz Os underlying22 h1;obtain⟨c,q,rfl,hc,hq⟩:=adE hq;obtain rfl:=ahh hq;simp only[Ax,AY,and_true]at e0;exact⟨c,L,s,by rw[e0];rfl,hc,h2,h3,h4,h5⟩
def afi:List (Nat×TI):=[(2,DA),
 (3,C1),
 (4,EM),
 (5,KB),
 (22,vT),
 (24,vS),
 (25,Pm),
 (26,SG),
 (29,asP),
 (30,asO),
 (32,asN),
 (33,OJ),
 (36,Pk),
 (39,hZ),
 (41,rK),
 (43,hJ),
 (44,SF),
 (46,VF),
 (57,lm),
 (59,oQ),
 (61,iM),
 (63,yL),
 (64,OI),
 (65,OH),
 (67,aaS),
 (177,Ry)]
def ae7:∀t i,(t,i)∈afi->TIok ZF t i:=bK (Ed (z:=lR) ⟨lb,ij⟩<|Ed (z:=FC) ⟨Mu,qW⟩<|Ed (z:=D5) ⟨Mr,qV⟩<|Ed (z:=OF) ⟨aoa,aiT⟩ Ch) Ch (by kernel_rfl)
def agn(p:Prog)(i:Int)(Is:Int)(cx:LL)(an:LL)(fu:Int):List Dt:=[.z (Ay ZB)]
def mo:List Dt->List Dt
 |[.z x0,.l x1,.z x2,.z x3,.l x4,.l x5,.z x6]=>agn ⟨x0,x1⟩ x2 x3 x4 x5 x6
 |_=>[]
def qj:Tr:=
(.cut 0 7 [.bool]
(.call 0 [.bool] (.cons (.w 0) (.N (.g 1) .nil)) 7
(.br (.s 7)
(.next 0 (.j (.tt ZB) .nil))
(.br (.lt (.w 2) (.p 0))
(.next 0 (.j (.tt ZB) .nil))
(.br (.lt (.w 2) (.len (.g 1)))
(.br (.lt (.p 256) (.len (.g 4)))
(.next 0 (.j (.tt ZB) .nil))
(.br (.lt (.p 50) (.len (.g 5)))
(.next 0 (.j (.tt ZB) .nil))
(.br (.lt (.w 6) (.p 0))
(.next 0 (.j (.tt ZB) .nil))
(.next 0 (.j (.lt (.p 300) (.w 6)) .nil)))))
(.next 0 (.j (.tt ZB) .nil))))))
(.br (.s 7)
(.call 1 [.bool] .nil 8
(.u (.j (.s 8) .nil)))
(.call 2 ([.sl [ZD] 4,.sl Ih 67]++[.int .i64]++[.int .i64]) (.cons (.w 0) (.N (.g 1) .nil)) 8
(.call 3 [.sl [ZA .i64] 3,.sl [ZA .i64] 3,.int .i64] (.cons (.w 0) (.N (.g 1) .nil)) 12
(.br (.lt (.w 2) (.p 0))
.panic
(.br (.lt (.w 2) (.len (.g 1)))
(.br (.eq (.w 11) (.p 0))
(.call 4 [.bool] (.ins (.g 1) (.w 2) .nil) 15
(.br (.s 15)
(.cut 1 16 [.bool]
(.br (.eq (.w 14) (.p 0))
(.br (.eq (.len (.g 13)) (.len (.g 1)))
(.br (.eq (.len (.g 4)) (.w 0))
(.br (.eq (.get (.g 1) (.w 2) 0) (.p 0))
(.br (.lt (.w 2) (.len (.g 13)))
(.br (.lt (.get (.g 1) (.w 2) 5) (.p 0))
.panic
(.next 1 (.j (.eq (.f .and .i64 (.f .shr .i64 (.get (.g 13) (.w 2) 0) (.get (.g 1) (.w 2) 5)) (.p 1)) (.p 1)) .nil)))
.panic)
(.br (.eq (.get (.g 1) (.w 2) 0) (.p 1))
(.br (.lt (.w 2) (.len (.g 13)))
(.br (.lt (.get (.g 1) (.w 2) 5) (.p 0))
.panic
(.next 1 (.j (.eq (.f .and .i64 (.f .shr .i64 (.get (.g 13) (.w 2) 0) (.get (.g 1) (.w 2) 5)) (.p 1)) (.p 1)) .nil)))
.panic)
(.next 1 (.j (.tt ZB) .nil))))
(.next 1 (.j (.tt ZB) .nil)))
(.next 1 (.j (.tt ZB) .nil)))
(.next 1 (.j (.tt ZB) .nil)))
(.br (.s 16)
(.br (.eq (.w 14) (.p 0))
(.br (.eq (.len (.g 13)) (.len (.g 1)))
(.call 1 [.bool] .nil 17
(.u (.j (.s 17) .nil)))
 zlF)
 zlF)
(.br (.lt (.len (.g 1)) (.p 1073741824))
(.call 5 [.bool] (.gs (.lset (.lset (.lset (.lset (.lsetb (.lset (.lset (.lset (.lset (.g 1) (.w 2) 0 (.p 0)) (.w 2) 1 (.p 11)) (.w 2) 2 (.p 64)) (.w 2) 3 (.p 0)) (.w 2) 4 (.tt ZC)) (.w 2) 5 (.get (.g 1) (.w 2) 5)) (.w 2) 6 (.p 0)) (.w 2) 7 (.p 0)) (.w 2) 8 (.w 3)) (.w 2) 0 4 (.j (.getb (.lset (.lset (.lset (.lset (.lsetb (.lset (.lset (.lset (.lset (.g 1) (.w 2) 0 (.p 0)) (.w 2) 1 (.p 11)) (.w 2) 2 (.p 64)) (.w 2) 3 (.p 0)) (.w 2) 4 (.tt ZC)) (.w 2) 5 (.get (.g 1) (.w 2) 5)) (.w 2) 6 (.p 0)) (.w 2) 7 (.p 0)) (.w 2) 8 (.w 3)) (.w 2) 4) (.gs (.lset (.lset (.lset (.lset (.lsetb (.lset (.lset (.lset (.lset (.g 1) (.w 2) 0 (.p 0)) (.w 2) 1 (.p 11)) (.w 2) 2 (.p 64)) (.w 2) 3 (.p 0)) (.w 2) 4 (.tt ZC)) (.w 2) 5 (.get (.g 1) (.w 2) 5)) (.w 2) 6 (.p 0)) (.w 2) 7 (.p 0)) (.w 2) 8 (.w 3)) (.w 2) 5 4 .nil))) 17
(.br (.s 17)
(.call 6 (kOut++[.int .i64]) (.cons (.w 0) (.N (.g 1) (.N (.g 4) (.N (.g 5) (.cons (.w 6) .nil))))) 18
(.call 6 (kOut++[.int .i64]) (.cons (.w 0) (.N (.lset (.lset (.lset (.lset (.lsetb (.lset (.lset (.lset (.lset (.g 1) (.w 2) 0 (.p 0)) (.w 2) 1 (.p 11)) (.w 2) 2 (.p 64)) (.w 2) 3 (.p 0)) (.w 2) 4 (.tt ZC)) (.w 2) 5 (.get (.g 1) (.w 2) 5)) (.w 2) 6 (.p 0)) (.w 2) 7 (.p 0)) (.w 2) 8 (.w 3)) (.N (.g 4) (.N (.g 5) (.cons (.w 6) .nil))))) 24
(.br (.eq (.w 23) (.p 0))
(.br (.eq (.w 29) (.p 0))
(.call 7 [.bool] (.vs 18 2 (.N (.g 20) (.N (.g 21) (.cons (.w 22) (.vs 24 2 (.N (.g 26) (.N (.g 27) (.cons (.w 28) .nil)))))))) 30
(.br (.s 30)
(.br (.eq (.w 22) (.w 28))
(.call 1 [.bool] .nil 31
(.u (.j (.s 31) .nil)))
 zlF)
 zlF))
 zlF)
 zlF)))
(.call 1 [.bool] .nil 18
(.u (.j (.s 18) .nil)))))
.panic)))
 zlF))
(.cut 1 15 [.bool]
(.next 1 (.j (.tt ZB) .nil))
(.br (.s 15)
(.call 1 [.bool] .nil 16
(.u (.j (.s 16) .nil)))
(.br (.lt (.len (.g 1)) (.p 1073741824))
(.call 5 [.bool] (.gs (.lset (.lset (.lset (.lset (.lsetb (.lset (.lset (.lset (.lset (.g 1) (.w 2) 0 (.p 0)) (.w 2) 1 (.p 11)) (.w 2) 2 (.p 64)) (.w 2) 3 (.p 0)) (.w 2) 4 (.tt ZC)) (.w 2) 5 (.get (.g 1) (.w 2) 5)) (.w 2) 6 (.p 0)) (.w 2) 7 (.p 0)) (.w 2) 8 (.w 3)) (.w 2) 0 4 (.j (.getb (.lset (.lset (.lset (.lset (.lsetb (.lset (.lset (.lset (.lset (.g 1) (.w 2) 0 (.p 0)) (.w 2) 1 (.p 11)) (.w 2) 2 (.p 64)) (.w 2) 3 (.p 0)) (.w 2) 4 (.tt ZC)) (.w 2) 5 (.get (.g 1) (.w 2) 5)) (.w 2) 6 (.p 0)) (.w 2) 7 (.p 0)) (.w 2) 8 (.w 3)) (.w 2) 4) (.gs (.lset (.lset (.lset (.lset (.lsetb (.lset (.lset (.lset (.lset (.g 1) (.w 2) 0 (.p 0)) (.w 2) 1 (.p 11)) (.w 2) 2 (.p 64)) (.w 2) 3 (.p 0)) (.w 2) 4 (.tt ZC)) (.w 2) 5 (.get (.g 1) (.w 2) 5)) (.w 2) 6 (.p 0)) (.w 2) 7 (.p 0)) (.w 2) 8 (.w 3)) (.w 2) 5 4 .nil))) 16
(.br (.s 16)
(.call 6 (kOut++[.int .i64]) (.cons (.w 0) (.N (.g 1) (.N (.g 4) (.N (.g 5) (.cons (.w 6) .nil))))) 17
(.call 6 (kOut++[.int .i64]) (.cons (.w 0) (.N (.lset (.lset (.lset (.lset (.lsetb (.lset (.lset (.lset (.lset (.g 1) (.w 2) 0 (.p 0)) (.w 2) 1 (.p 11)) (.w 2) 2 (.p 64)) (.w 2) 3 (.p 0)) (.w 2) 4 (.tt ZC)) (.w 2) 5 (.get (.g 1) (.w 2) 5)) (.w 2) 6 (.p 0)) (.w 2) 7 (.p 0)) (.w 2) 8 (.w 3)) (.N (.g 4) (.N (.g 5) (.cons (.w 6) .nil))))) 23
(.br (.eq (.w 22) (.p 0))
(.br (.eq (.w 28) (.p 0))
(.call 7 [.bool] (.vs 17 2 (.N (.g 19) (.N (.g 20) (.cons (.w 21) (.vs 23 2 (.N (.g 25) (.N (.g 26) (.cons (.w 27) .nil)))))))) 29
(.br (.s 29)
(.br (.eq (.w 21) (.w 27))
(.call 1 [.bool] .nil 30
(.u (.j (.s 30) .nil)))
 zlF)
 zlF))
 zlF)
 zlF)))
(.call 1 [.bool] .nil 17
(.u (.j (.s 17) .nil)))))
.panic))))
.panic))))))
def sP_lvdead:Spec:={F:=fun k=>match k with|0=>c_lgreat.F|1=>c_lwakes.F|2=>zu|3=>c_lrun.F|4=>c_jmay.F|5=>c_nmay.F|6=>c_mrun.F|7=>c_tlike.F|_=>fun _=>[],pre:=fun k=>match k with|0=>jL|2=>uB|3=>nQ|6=>qo|7=>uC|_=>fun _=>True,hw:=JA,hx:=sHx,hi:=sHi}
def ag9:cG afi [c_lgreat.m 0,c_lwakes.m 1,zq 2,c_lrun.m 3,c_jmay.m 4,c_nmay.m 5,c_mrun.m 6,c_tlike.m 7] [] [(999999,[])] [(2,[.tmpB 55]++Eb [(25,30)]),(9,[.tmpB 122]++Eb [(81,41)])] 200 f3 [.agg kProg,.one (.int .i64),.one (.int .i64),.one (.sl [ZA .u8] 5),.one (.sl [ZA .u64] 43),.one (.int .i64)] [.one .bool] ZC (v_Prog [.int .i64,.int .i64,.list [ZA .u8],.list [ZA .u64],.int .i64]) qj:=FJ (by kernel_rfl)
def awQ(ρ:Env)(l i t:E):(E.gs l i 0 4 (.j (.getb l i 4) (.gs l i 5 4 t))).D ρ=d_Ins (ab (l.R ρ) (i.I ρ)) (t.D ρ):=by kernel_rfl
def asT{l:LL}(hn:n<l.length)(r:List Int)(c:Nat)(v:Int):st (l.set n r) (n:Int) c v=l.set n (r.set c v):=by simp[st,hn]
def set9{l:LL}(hr:(l.getD n []).length=9)(hn:n<l.length)(d b:Int):
  st (st (st (st (st (st (st (st (st l (n:Int) 0 0) (n:Int) 1 11) (n:Int) 2 64) (n:Int) 3 0) (n:Int) 4 (Ay ZC)) (n:Int) 5 d) (n:Int) 6 0) (n:Int) 7 0) (n:Int) 8 b=l.set n (OK d b):=by
 rw[show st l (n:Int) 0 0=l.set n ((l.getD n []).set 0 0)from by unfold st;rw[cy]];simp only[asT hn];generalize l.getD n []=r at hr
 match r,hr with
 |[_,_,_,_,_,_,_,_,_],_=>rfl
def qE:E:=(.lset (.lset (.lset (.lset (.lsetb (.lset (.lset (.lset (.lset (.g 1) (.w 2) 0 (.p 0)) (.w 2) 1 (.p 11)) (.w 2) 2 (.p 64)) (.w 2) 3 (.p 0)) (.w 2) 4 (.tt ZC)) (.w 2) 5 (.get (.g 1) (.w 2) 5)) (.w 2) 6 (.p 0)) (.w 2) 7 (.p 0)) (.w 2) 8 (.w 3))
def atF{ρ:Env}(h:ρ.b n=ZB):(E.j (.s n) .nil).D ρ=[.z (Ay ZB)]:=by show[Dt.z (Ay (ρ.b n))]=_;rw[h]
def UC{ρ:Env}{b:Bool}(h:[Dt.z (Ay (ρ.b n))]=[.z (Ay b)]):ρ.b n=b:=by simp only[AY,Dt.z.injEq,and_true]at h;revert h;cases ρ.b n<;>cases b<;>decide
def aol(p:Prog)(cx an:LL)(fu:Int):c_mrun.F (d_Prog p [.l cx,.l an,.z fu])=d_Out (Cm p cx an fu).1 [.z (Cm p cx an fu).2]:=by simp only[c_mrun,xh,rdL,rdZ]
def avd(x:Ins):c_jmay.F (d_Ins x [])=[.z (Ay (AL x))]:=by simp only[c_jmay,abW]
def avc(x:Ins):c_nmay.F (d_Ins x [])=[.z (Ay (AL x))]:=by simp only[c_nmay,abW]
def TE(p:Prog)(i:Int)(cx an:LL)(fu:Int)(ds:List Dt):Prop:=∃b:Bool,ds=[.z (Ay b)]/\(b=ZC->(0<=i/\i<(p.l.length:Int))/\cx.length<=256/\an.length<=50/\0<=fu/\fu<=300)
def LD2(p:Prog)(n:Nat)(cx:LL)(ds:List Dt):Prop:=∃b:Bool,ds=[.z (Ay b)]/\(b=ZC->(cx.length:Int)=p.ctx/\((ab p.l (n:Int)).k=0\/(ab p.l (n:Int)).k=1)/\((oU p).2.getD n 0).getLsbD (ab p.l (n:Int)).d.toNat=ZC)
def agk(p:Prog)(hp:Prog.ok p)(i:Int)(hi:Aj .i64 i=ZB)(Is:Int)(hby_:Aj .i64 Is=ZB)(cx:LL)(OS:RowsIn [ZA .u8] cx)(an:LL)(han:RowsIn [ZA .u64] an)(fu:Int)(hfu:Aj .i64 fu=ZB):Cn qj sP_lvdead (v_Prog [.int .i64,.int .i64,.list [ZA .u8],.list [ZA .u64],.int .i64]) (d_Prog p [.z i,.z Is,.l cx,.l an,.z fu]) mo:=by
 intro ρ g;have hl:p.l.length<=maxLen:=hp.2.len;have AG:∀n:Nat,n<p.l.length->(p.l.getD n []).length=9:=fun n hn=>by have:=cn (hp.2.row (p.l.getD n []) (by rw[bh,Az hn];exact List.getElem_mem hn));exact this.trans Os
 have hF:mo (d_Prog p [.z i,.z Is,.l cx,.l an,.z fu])=[.z (Ay ZB)]:=by simp only[mo,xh,rdL,rdZ];rfl
 rw[hF];have g':Dt.z (ρ.i 0)::.l (ρ.l 1)::.z (ρ.i 2)::.z (ρ.i 3)::.l (ρ.l 4)::.l (ρ.l 5)::[.z (ρ.i 6)]=.z p.ctx::.l p.l::.z i::.z Is::.l cx::.l an::[.z fu]:=g;simp only[AY,Dt.z.injEq,Dt.l.injEq,and_true]at g';obtain⟨g0,g1,g2,g3,g4,g5,g6⟩:=g';clear g;have wk:∀{ρ:Env} {I:Nat->List Dt->Prop} {n:Nat},(Tr.call 1 [.bool] .nil n (.u (.j (.s n) .nil))).asks sP_lvdead (fun ρ e=>e.D ρ=[.z (Ay ZB)]) ρ I:=fun {ρ I n}=>aF (xs:=[]) rfl trivial (fun e=>atF (e.1.trans rfl))
 unfold qj;refine⟨TE p i cx an fu,?_,?_⟩
 .refine aF (xs:=[.z p.ctx,.l p.l]) (by simp only[E.D,E.I,E.R,g0,g1]) hl (fun _=> ?_);have tr:(Tr.next 0 (.j (.tt ZB) .nil)).asks sP_lvdead (fun ρ e=>e.D ρ=[.z (Ay ZB)]) ρ (GQ (fun _ _=>False) 0 (TE p i cx an fu)):=aQ ⟨ZB,rfl,fun h=>by cases h⟩;refine⟨fun _=>tr,fun _=>⟨fun _=>tr,fun c1=>⟨fun c2=>⟨fun _=>tr,fun c3=>⟨fun _=>tr,fun c4=>⟨fun _=>tr,fun c5=>aQ ⟨_,rfl,fun c6=> ?_⟩⟩⟩⟩,fun _=>tr⟩⟩⟩;simp only[E.B,E.I,E.R,g1,g2,g4,g5,g6]at c1 c2 c3 c4 c5 c6;have:=Af c1;have:=Ae c2;have:=Af c3;have:=Af c4;have:=Af c5;have:=Af c6;omega
 intro ρ1 A7 _ Bm;obtain⟨b,Bw,hb⟩:=Bm;have b7:ρ1.b 7=b:=UC Bw;have q0:=kI A7 g0;have q1:=kL A7 g1;have q2:=kI A7 g2;have q3:=kI A7 g3;have q4:=kL A7 g4;have q5:=kL A7 g5;have q6:=kI A7 g6;clear g0 g1 g2 g3 g4 g5 g6 A7 Bw;refine⟨fun _=>wk,fun c=> ?_⟩;obtain⟨⟨JP,Ds⟩,hb3,hb4,Xj,hb6⟩:=hb (b7.symm.trans c);obtain⟨n,rfl⟩:=cj JP;have hn:n<p.l.length:=Fn;refine aF (xs:=[.z p.ctx,.l p.l]) (by simp only[E.D,E.I,E.R,q0,q1]) hl (fun e=> ?_);have e11:ρ1.i 11=(AK p).2.2.2:=e.2.2.2.1;clear e;refine aF (xs:=[.z p.ctx,.l p.l]) (by simp only[E.D,E.I,E.R,q0,q1]) hl (fun e=> ?_);have S4:ρ1.l 13=(D2 p).1.2:=e.2.1;have e14:ρ1.i 14=(D2 p).2:=e.2.2.1;clear e;refine⟨fun c=> ?_,fun _=>⟨fun _=> ?_,fun c=> ?_⟩⟩
 .simp only[E.B,E.I,q2]at c;have:=Ae c;omega
 rotate_left
 .simp only[E.B,E.I,E.R,q2,q1]at c;have:=Af c;omega
 refine⟨fun c=> ?_,fun c=> ?_⟩
 rotate_left
 .refine⟨fun ds=>ds=[.z (Ay ZB)],aQ rfl,?_⟩;intro ρ2 DO _ Hi;have ON:ρ2.b 15=ZB:=UC Hi;exact⟨fun _=>wk,fun c=>by rw[show(E.s 15).B ρ2=ZB from ON]at c;cases c⟩
 have h:(AK p).2.2.2=0:=by simp only[E.B,E.I,e11]at c;exact Bs c
 obtain⟨hk,-⟩:=yC hl h;have F:=alA hl hk;have er:(D2 p).2=0:=(atC p).trans hk;have eo:(D2 p).1.2=dA (oU p).2:=by rw[atB hk]
 have PJ:((D2 p).1.2).length=p.l.length:=by rw[eo,mq,F.lo]
 have hx:=fT hl hk JP Ds;have hd:=aZ hx;refine aF (xs:=d_Ins (ab p.l (n:Int)) []) ((Ww ρ1 (.g 1) (.w 2) .nil).trans (by rw[show(E.g 1).R ρ1=p.l from q1,show(E.w 2).I ρ1=(n:Int)from q2];rfl)) trivial (fun e=> ?_);rw[show sP_lvdead.F 4=c_jmay.F from rfl,avd,hx]at e;have ON:ρ1.b 15=ZB:=e.1.trans rfl;clear e;refine⟨fun _=> ?_,fun c=>(by rw[show(E.s 15).B ρ1=ZB from ON]at c;cases c)⟩;refine⟨LD2 p n cx,?_,?_⟩
 .have tr:(Tr.next 1 (.j (.tt ZB) .nil)).asks sP_lvdead (fun ρ e=>e.D ρ=[.z (Ay ZB)]) ρ1 (GQ (GQ (fun _ _=>False) 0 (TE p (n:Int) cx an fu)) 1 (LD2 p n cx)):=aQ ⟨ZB,rfl,fun h=>by cases h⟩;refine⟨fun _=>⟨fun _=>⟨fun c3=>⟨fun c4=> ?_,fun _=>⟨fun c4=> ?_,fun _=>tr⟩⟩,fun _=>tr⟩,fun _=>tr⟩,fun _=>tr⟩
  all_goals
   have Nf:(ab p.l (n:Int)).k=0\/(ab p.l (n:Int)).k=1:=by
    simp only[E.B,E.I,E.R,q1,q2]at c4
    first|exact .inl (Bs c4)|exact .inr (Bs c4)
   refine⟨fun _=>⟨fun c=> ?_,fun _=>aQ ⟨_,rfl,fun c6=>⟨?_,Nf,?_⟩⟩⟩,fun c=> ?_⟩
   .simp only[E.B,E.I,E.R,q1,q2]at c;exact ak (Ae c) (bR.2 hd.1)
   .simp only[E.B,E.I,E.R,q4,q0]at c3;exact Bs c3
   .simp only[E.B,E.I,E.R,q1,q2,S4,eo]at c6;rw[kF (by rw[F.lo];exact hn)]at c6;exact(ap7 _ hd.1 hd.2.1).symm.trans c6
   .simp only[E.B,E.I,E.R,q2,S4,PJ]at c;have:=Af c;omega
 intro ρ2 DO _ Hi;obtain⟨b',Bw,D8⟩:=Hi;have b16:ρ2.b 16=b':=UC Bw;have f0:=kI DO q0;have f1:=kL DO q1;have f2:=kI DO q2;have f3:=kI DO q3;have f4:=kL DO q4;have f5:=kL DO q5;have f6:=kI DO q6;have f13:=kL DO S4;have f14:=kI DO e14;clear q0 q1 q2 q3 q4 q5 q6 DO Bw S4 e14;refine⟨fun _=>⟨fun _=>⟨fun _=>wk,fun c=> ?_⟩,fun c=> ?_⟩,fun c=> ?_⟩
 .simp only[E.B,E.I,E.R,f13,f1,PJ]at c;simp at c
 .simp only[E.B,E.I,f14,er]at c;cases c
 obtain⟨CQ,Nf,HX⟩:=D8 (b16.symm.trans c);refine⟨fun _=> ?_,fun c=> ?_⟩
 rotate_left
 .simp only[E.B,E.I,E.R,f1]at c;have:=Af c;have:=(bj hl hk).1.2.2;omega
 have eL:qE.R ρ2=(gC p n Is).l:=by show st (st (st (st (st (st (st (st (st (ρ2.l 1) (ρ2.i 2) 0 0) (ρ2.i 2) 1 11) (ρ2.i 2) 2 64) (ρ2.i 2) 3 0) (ρ2.i 2) 4 (Ay ZC)) (ρ2.i 2) 5 (gt (ρ2.l 1) (ρ2.i 2) 5)) (ρ2.i 2) 6 0) (ρ2.i 2) 7 0) (ρ2.i 2) 8 (ρ2.i 3)=_;rw[f1,f2,f3];exact set9 (AG n hn) hn _ _
 have eX:ab (gC p n Is).l (n:Int)=vr (ab p.l (n:Int)).d Is:=(mS hn _ _ n).trans (ae rfl);refine aF (xs:=d_Ins (vr (ab p.l (n:Int)).d Is) []) ((awQ ρ2 qE (.w 2) .nil).trans (by rw[eL,show(E.w 2).I ρ2=(n:Int)from f2,eX];rfl)) trivial (fun e=> ?_);rw[show sP_lvdead.F 5=c_nmay.F from rfl,avc]at e;have b17:ρ2.b 17=AL (vr (ab p.l (n:Int)).d Is):=e.1.trans (oP _);clear e;refine⟨fun c=> ?_,fun _=>wk⟩;obtain⟨r1,r2⟩:=ahT hl hk hn Nf h (b17.symm.trans c) F HX OS han CQ Xj Fn;have pm:∀q:Prog,q.l.length<=maxLen->(q.l.length<=maxLen/\cx.length<=maxLen)/\an.length<=maxLen:=fun q hq=>⟨⟨hq,by unfold maxLen;omega⟩,by unfold maxLen;omega⟩
 refine aF (xs:=d_Prog p [.l cx,.l an,.z fu]) (by simp only[E.D,E.I,E.R,f0,f1,f4,f5,f6];rfl) (pm p hl) (fun e=> ?_);rw[show sP_lvdead.F 6=c_mrun.F from rfl,aol]at e;refine aF (xs:=d_Prog (gC p n Is) [.l cx,.l an,.z fu]) (by
  show Dt.z (ρ2.i 0)::.l (qE.R ρ2)::.l (ρ2.l 4)::.l (ρ2.l 5)::[.z (ρ2.i 6)]=_;rw[f0,eL,f4,f5,f6];rfl) (pm (gC p n Is) ((List.length_set ..).symm▸hl)) (fun e'=> ?_)
 rw[show sP_lvdead.F 6=c_mrun.F from rfl,aol,r2]at e';generalize (Cm p cx an fu)=o at *;have a0:ρ2.i 18=o.1.kind:=e.1;have a1:ρ2.i 19=o.1.r0:=e.2.1;have a2:ρ2.l 20=o.1.ctx:=e.2.2.1;have a3:ρ2.l 21=o.1.tr:=e.2.2.2.1;have a4:ρ2.i 22=o.1.left:=e.2.2.2.2.1;have a5:ρ2.i 23=o.2:=e.2.2.2.2.2.1;have z0:ρ2.i 24=o.1.kind:=e'.1;have z1:ρ2.i 25=o.1.r0:=e'.2.1;have z2:ρ2.l 26=o.1.ctx:=e'.2.2.1;have z3:ρ2.l 27=o.1.tr:=e'.2.2.2.1;have z4:ρ2.i 28=o.1.left:=e'.2.2.2.2.1;have z5:ρ2.i 29=o.2:=e'.2.2.2.2.2.1;clear e e';refine⟨fun _=>⟨fun _=> ?_,fun c=> ?_⟩,fun c=> ?_⟩
 rotate_left
 .simp only[E.B,E.I,z5,r1]at c;cases c
 .simp only[E.B,E.I,a5,r1]at c;cases c
 refine aF (xs:=d_Out o.1 (d_Out o.1 [])) (by
  show Dt.z (ρ2.i 18)::.z (ρ2.i 19)::.l (ρ2.l 20)::.l (ρ2.l 21)::.z (ρ2.i 22)::.z (ρ2.i 24)::.z (ρ2.i 25)::.l (ρ2.l 26)::.l (ρ2.l 27)::[.z (ρ2.i 28)]=_;rw[a0,a1,a2,a3,a4,z0,z1,z2,z3,z4];rfl) (by rfl) (fun e=> ?_)
 have b30:ρ2.b 30=ZB:=e.1.trans rfl;clear e;refine⟨fun _=>⟨fun _=>wk,fun c=> ?_⟩,fun c=>(by rw[show(E.s 30).B ρ2=ZB from b30]at c;cases c)⟩;simp only[E.B,E.I,a4,z4]at c;simp at c
def ahc(xs:List Dt)(vals:List Value)(w:World)(hw:nN w [.agg kProg,.one (.int .i64),.one (.int .i64),.one (.sl [ZA .u8] 5),.one (.sl [ZA .u64] 43),.one (.int .i64)] xs vals)(hh:JA w):Calls ZF 3 vals.toArray w fun e w'=>∃v,e=.returned v/\RetOk [.one .bool] ZC w w' (mo xs) v:=
 (xT (by kernel_rfl) ae7 (EK (alT rfl rfl)<|EK (alS rfl rfl)<|EK (aqj rfl rfl)<|EK (anO rfl rfl)<|EK (auh rfl rfl)<|EK (R4 rfl rfl)<|EK (at8 rfl rfl)<|EK (arj rfl rfl) sm0) func3 FD ag9 (pre:=fun _=>True) (fQ fun p gp=>fun i gi Is W9 cx gcx an gan fu gfu hp=>agk p gp i gi Is W9 cx gcx an gan fu gfu) xs vals w hw trivial hh).2
def rwU8:Rw ZF 5 [ZA .u8]:=Rw.int .u8 underlying5 (by kernel_rfl)
def rwU:Rw ZF 43 [ZA .u64]:=Rw.int .u64 underlying43 (by kernel_rfl)
def xH{enc:TypeId×Value->H}{r:Reach}{b0:Nat}(v0:Value)(k0:Value.okWide ZF W r b0 24 v0)(d0:DataW H)(p0:List MemPlace)(h0:DataW.Trod enc ZF W 0 (fun _=>ZB) ZB 24 v0 d0 p0)(_:∀x∈p0,x.block<W.heap.size)(a1:Int)(w1:(Lit.int .i64 a1).wf=ZB)(a2:Int)(w2:(Lit.int .i64 a2).wf=ZB)(v3:Value)(k3:Value.okWide ZF W r b0 25 v3)(d3:DataW H)(p3:List MemPlace)(h3:DataW.Trod enc ZF W 0 (fun _=>ZB) ZB 25 v3 d3 p3)(_:∀x∈p3,x.block<W.heap.size)(v4:Value)(k4:Value.okWide ZF W r b0 26 v4)(d4:DataW H)(p4:List MemPlace)(h4:DataW.Trod enc ZF W 0 (fun _=>ZB) ZB 26 v4 d4 p4)(_:∀x∈p4,x.block<W.heap.size)(a5:Int)(w5:(Lit.int .i64 a5).wf=ZB)(hh:JA W):
  Calls ZF 3 #[v0,.int .i64 a1,.int .i64 a2,v3,v4,.int .i64 a5] W fun e W'=>e=.returned (.bool ZB)/\Below W.heap.size W W':=by
 obtain⟨a0,q0,s0,rfl,w0,n0,m0,o0,l0⟩:=Prog.of_arg k0 h0;obtain⟨q3,s3,rfl,n3,m3,o3,l3⟩:=wy rwU8 Os underlying25 k3 h3;obtain⟨q4,s4,rfl,n4,m4,o4,l4⟩:=wy rwU Os underlying26 k4 h4;refine(ahc ([.z a0,.l q0,.z a1,.z a2,.l q3,.l q4,.z a5]) _ W ⟨_,_,_,rfl,⟨_,_,_,rfl,⟨_,rfl,rfl,w0⟩,⟨_,_,_,rfl,⟨_,_,rfl,rfl,n0,m0,o0,l0⟩,⟨rfl,rfl⟩⟩⟩,⟨_,_,_,rfl,⟨_,rfl,rfl,(mU w1)⟩,⟨_,_,_,rfl,⟨_,rfl,rfl,(mU w2)⟩,⟨_,_,_,rfl,⟨_,_,rfl,rfl,n3,m3,o3,l3⟩,⟨_,_,_,rfl,⟨_,_,rfl,rfl,n4,m4,o4,l4⟩,⟨_,_,_,rfl,⟨_,rfl,rfl,(mU w5)⟩,⟨rfl,rfl⟩⟩⟩⟩⟩⟩⟩ hh).mono fun e W' ⟨v,he,hr⟩=> ?_;have hv:v=.bool ZB:=RetOk.says hr;rw[he,hv];exact⟨rfl,hr.ext⟩
end Go.Proofs.YtgolejfhoefeaabGreatDoor
