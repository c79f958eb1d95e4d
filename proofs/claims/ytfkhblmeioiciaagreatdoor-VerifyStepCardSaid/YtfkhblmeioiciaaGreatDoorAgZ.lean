import Derived.Test.YtfkhblmeioiciaaGreatDoorAeZ
import Derived.Test.YtfkhblmeioiciaaGreatDoorAfZ
import Derived.Test.YtfkhblmeioiciaaGreatDoorProg
import Derived.Laws.Externs
set_option maxRecDepth 100000
set_option maxHeartbeats 8000000
set_option linter.defProp false
set_option linter.unusedVariables false
set_option linter.unusedSimpArgs false
namespace Go.Proofs.YtfkhblmeioiciaaGreatDoor
open Go.RowKit Go.ChangeShapes Go.WideShapes
def cN:=And.intro Kn.eta (And.intro Pi.eta (And.intro Pu.eta (And.intro Rg.eta (And.intro Sc.eta (And.intro Sc.eta_r (And.intro Sc.eta_k (Sc.eta_2)))))))
theorem af {p q q2:Prop} (k:q2) (h:p->q=q2:=by intro e;(try simp only[e,cN,-eq_self]);rfl):p->q:=fun e=>(h e).symm▸k
def aaI:List (Nat×TI):=[(2,tiq2),
 (3,tiq3),
 (27,yz),
 (37,dS),
 (42,dR),
 (44,ew),
 (46,fR),
 (48,aaU),
 (105,jd)]
theorem cS:∀t i,(t,i)∈aaI->TIok Tryz.prog t i:=aV fa0 fa0 (by kernel_rfl)
def c_rbits0:Cd:=⟨129,[.one (.int .i8),.one (.int .i8),.one (.lit .u64 0),.one (.lit .u64 0)],[.one (.int .u64),.one (.int .i64)],rdZ fun op=>rdZ fun l _=>[.z (if okop op l=true then zdo op l 0 0 else 0),.z (if okop op l=true then 0 else 2)],T0⟩
theorem abr (op:Int) (hop:inK .i8 op=true) (l:Int) (hl:inK .i8 l=true):(∀w,Calls Tryz.prog 129 #[.int .i8 op,.int .i8 l,.int .u64 0,.int .u64 0] w fun e w'=>e=.returned (.tuple #[.int .u64 (if okop op l=true then zdo op l 0 0 else 0),.int .i64 (if okop op l=true then 0 else 2)])/\Ext w w')/\eu (.tuple #[.int .u64 (if okop op l=true then zdo op l 0 0 else 0),.int .i64 (if okop op l=true then 0 else 2)])=true:=by
 cases hk:okop op l
 ·refine⟨fun w=>(ac4 op l 0 0 w ?_).mono ?_,by simp[eu,dW,dY];decide⟩
  ·unfold okop at hk
   rw[Bool.and_eq_false_iff,Bool.and_eq_false_iff] at hk
   rcases hk with(hk | hk) | hk
   ·have:=thm2 hk
    simp;omega
   ·have:=thm2 hk
    simp;omega
   ·rw[hk];simp
  ·rintro e w' ⟨rfl,rfl⟩
   exact⟨by simp,Ext.refl _⟩
 ·unfold okop at hk
  simp only[thm0,ba] at hk
  have hz:=jt (aab op l 0 0 (by omega) (by omega) (by omega) (by omega))
  refine⟨fun w=>(ac5 op l 0 0 w (by omega) (by omega) (by omega) (by omega) hk.1.1 hk.1.2 hk.2).mono ?_,by simp[eu,dW,dY,hz];decide⟩
  rintro e w' ⟨rfl,hx⟩
  first
  | exact⟨by simp,hx⟩
  | (subst hx;exact⟨by simp,Ext.refl _⟩)
theorem agB:c_rbits0.Ok Tryz.prog:=fun hF hP=>by
 refine SmOk.pure (s:=c_rbits0.m _) hF rfl rfl fun xs vals w h=> ?_
 obtain⟨_,_,_,rfl,⟨x0,rfl,rfl,gx0⟩,h⟩:=h
 obtain⟨_,_,_,rfl,⟨x1,rfl,rfl,gx1⟩,h⟩:=h
 obtain⟨_,_,_,rfl,⟨rfl,rfl⟩,h⟩:=h
 obtain⟨_,_,_,rfl,⟨rfl,rfl⟩,h⟩:=h
 obtain⟨rfl,rfl⟩:=h
 have q:=abr x0 gx0 x1 gx1
 refine⟨_,.inr ⟨cW Tryz.func129 (by kernel_rfl) (by kernel_rfl) _ w,q.1 w⟩,?_,fun U v0 nid j he=> ?_⟩
 ·have q2:=q.2
  simp[eu,dW,dY] at q2
  simp[c_rbits0,Cd.m,tp,rdZ,rdB,rdL,List.flatMap_cons,List.flatMap_nil,Sh.cks,List.append_nil,List.cons_append,List.nil_append,b2i_one,fu,q2]
 ·simp only[c_rbits0,Cd.m,tp,rdZ,rdB,rdL,List.flatMap_cons,List.flatMap_nil,Sh.cks,List.append_nil,List.cons_append,List.nil_append,b2i_one,eqs,dI,dB,ce,jw,bG,Nat.add_zero,Nat.reduceAdd,and_true] at he
  simp[c_rbits0,Cd.m,tp,rdZ,rdB,rdL,List.flatMap_cons,List.flatMap_nil,Sh.cks,List.append_nil,List.cons_append,List.nil_append,b2i_one,eK,bl,aG,V.den,C.den,denL,den0,bK,E.I,E.B,he]
def c_wmay:Cd:=⟨159,[.agg kSc],[.one .bool],rd_Sc fun a _=>[.z (b2i (vmay a))],T0⟩
def abC:Tr:=
(.call 0 [.bool] (.vs 0 4 .nil) 6
(.br (.bw 6)
(.call 1 [.bool] (.vs 4 2 .nil) 7
(.leaf (.consb (.bw 7) .nil)))
 zlF))
theorem th:c_wmay.Ok Tryz.prog:=
 oks abC (v_Sc []) cS (olc nK<|olc xF ol0) Tryz.func159<|cM fun a ha hp U g=>by
 simp only[q_Sc,q_Rg,q_Kn,gS1,Nat.reduceAdd] at g
 simp only[abC,spQ,c_rmay,c_qmay,rdZ,rdB,rdL,c_wmay,q_Sc,q_Rg,q_Kn,simQ,ab,S1,Nat.reduceSub,Nat.reduceAdd,-eq_self,cN,g]
 refine af ?_
 constructor<;>intro c0
 refine af ?_
 ·(unfold vmay;simp_all)
 ·(unfold vmay;simp_all)
def c_wall:Cd:=⟨99,[],[.agg kSc],fun _=>d_Sc vall [],T0⟩
def abH:Tr:=
(.call 0 (kRg) .nil 0
(.call 1 (kKn) .nil 4
(.leaf (.vs 0 6 .nil))))
theorem nH:c_wall.Ok Tryz.prog:=
 oks abH [] cS (olc nL<|olc nM ol0) Tryz.func99<|fun hp U g=>by
 simp only[abH,spQ,c_rall,c_qall,rdZ,rdB,rdL,c_wall,q_Sc,q_Rg,q_Kn,simQ,ab,S1,Nat.reduceSub,Nat.reduceAdd,-eq_self,cN]
 refine af ?_
 refine af ?_
 ·rfl
def c_wone:Cd:=⟨45,[.one (.int .u64)],[.agg kSc],rdZ fun v _=>d_Sc (vone v) [],T0⟩
def abA:Tr:=
(.call 0 (kRg) (.cons (.var 0) .nil) 1
(.call 1 (kKn) (.cons (.var 0) .nil) 5
(.leaf (.vs 1 6 .nil))))
theorem ah9:c_wone.Ok Tryz.prog:=
 oks abA [.int .u64] cS (olc aif<|olc aih ol0) Tryz.func45<|fun v hv hp U g=>by
 simp only[q_Sc,q_Rg,q_Kn,gS1,Nat.reduceAdd] at g
 simp only[abA,spQ,c_rone,c_qone,rdZ,rdB,rdL,c_wone,q_Sc,q_Rg,q_Kn,simQ,ab,S1,Nat.reduceSub,Nat.reduceAdd,-eq_self,cN,g]
 refine af ?_
 refine af ?_
 ·rfl
def c_wsingle:Cd:=⟨166,[.agg kSc],[.one (.int .u64),.one .bool],rd_Sc fun a _=>[.z (cR a),.z (b2i (pI a))],T0⟩
def oL:Tr:=
(.call 0 [.bool] (.vs 0 6 .nil) 6
(.br (.bw 6)
(.call 1 [.int .u64,.bool] (.vs 0 4 .nil) 7
(.leaf (.cons (.var 7) (.consb (.bw 8) .nil))))
(.leaf (.cons (.lit 0) (.consb (.tt false) .nil)))))
theorem adI:c_wsingle.Ok Tryz.prog:=
 oks oL (v_Sc []) cS (olc th<|olc nJ ol0) Tryz.func166<|cM fun a ha hp U g=>by
 simp only[q_Sc,q_Rg,gS1,Nat.reduceAdd] at g
 simp only[oL,spQ,c_wmay,c_rsingle,rdZ,rdB,rdL,c_wsingle,q_Sc,q_Rg,simQ,ab,S1,Nat.reduceSub,Nat.reduceAdd,-eq_self,cN,g]
 refine af ?_
 constructor<;>intro c0
 refine af ?_
 ·(unfold cR pI;simp_all)
 ·(unfold cR pI;simp_all)
def c_wonce:Cd:=⟨169,[.agg kSc],[.agg kSc,.one .bool],rd_Sc fun a _=>d_Sc (if(vs1 a&&vs2 a)=true then vst a else vall) [.z (b2i ((vs1 a&&vs2 a)))],T0⟩
def wj:Tr:=
(.call 0 (kRg) .nil 6
(.call 2 (kRg++[.bool]) (.vs 0 5 (.cons (.bin .or .u64 (.var 4) (.var 5)) (.vs 8 2 .nil))) 10
(.br (.bw 14)
(.call 4 (kKn) (.vs 10 2 .nil) 15
(.call 3 (kKn++[.bool]) (.vs 4 2 (.vs 15 2 .nil)) 17
(.br (.bw 19)
(.leaf (.vs 10 4 (.vs 17 2 (.consb (.tt true) .nil))))
(.call 1 (kSc) .nil 20
(.leaf (.vs 20 6 (.consb (.tt false) .nil)))))))
(.call 1 (kSc) .nil 15
(.leaf (.vs 15 6 (.consb (.tt false) .nil)))))))
theorem alB:c_wonce.Ok Tryz.prog:=
 oks wj (v_Sc []) cS (olc nL<|olc nH<|olc adT<|olc adV<|olc anE ol0) Tryz.func169<|cM fun a ha hp U g=>by
 simp only[q_Sc,q_Rg,q_Kn,gS1,Nat.reduceAdd] at g
 simp only[wj,spQ,c_rall,c_wall,c_rmeet,c_qmeet,c_qcom,rdZ,rdB,rdL,c_wonce,q_Sc,q_Rg,q_Kn,simQ,ab,S1,Nat.reduceSub,Nat.reduceAdd,-eq_self,cN,g]
 refine af ?_
 refine af ?_
 constructor<;>intro c0
 refine af ?_
 refine af ?_
 constructor<;>intro c1
 ·(have q:=wo_3 (a:=a) (Sc.wf_of ha) c0 c1;first | (rw[q.1,q.2];try rfl) | (simp only[q.1,q.2];rfl))
 refine af ?_
 ·(have q:=wo_2 (a:=a) (Sc.wf_of ha) c0 c1;first | (rw[q.1,q.2];try rfl) | (simp only[q.1,q.2];rfl))
 refine af ?_
 ·(have q:=wo_1 (a:=a) (Sc.wf_of ha) c0;first | (rw[q.1,q.2];try rfl) | (simp only[q.1,q.2];rfl))
def c_wnar:Cd:=⟨102,[.agg kSc],[.agg kSc,.one .bool],rd_Sc fun a _=>d_Sc (vnar a) [.z (b2i (vnok a))],T0⟩
def abB:Tr:=
(.call 0 [.bool] (.vs 0 6 .nil) 6
(.br (.bw 6)
(.call 2 (kSc++[.bool]) (.vs 0 6 .nil) 7
(.br (.bw 13)
(.call 2 (kSc++[.bool]) (.vs 7 6 .nil) 14
(.leaf (.vs 14 6 (.consb (.bw 20) .nil))))
(.call 1 (kSc) .nil 14
(.leaf (.vs 14 6 (.consb (.tt false) .nil))))))
(.call 1 (kSc) .nil 7
(.leaf (.vs 7 6 (.consb (.tt false) .nil))))))
theorem tf:c_wnar.Ok Tryz.prog:=
 oks abB (v_Sc []) cS (olc th<|olc nH<|olc alB ol0) Tryz.func102<|cM fun a ha hp U g=>by
 simp only[q_Sc,gS1,Nat.reduceAdd] at g
 simp only[abB,spQ,c_wmay,c_wall,c_wonce,rdZ,rdB,rdL,c_wnar,q_Sc,simQ,ab,S1,Nat.reduceSub,Nat.reduceAdd,-eq_self,cN,g]
 refine af ?_
 constructor<;>intro c0
 refine af ?_
 constructor<;>intro c1
 refine af ?_
 ·(have q:=wn_3 (a:=a) c0 c1;first | (rw[q.1,q.2];try rfl) | (simp only[q.1,q.2];rfl))
 refine af ?_
 ·(have q:=wn_2 (a:=a) c0 c1;first | (rw[q.1,q.2];try rfl) | (simp only[q.1,q.2];rfl))
 refine af ?_
 ·(have q:=wn_1 (a:=a) c0;first | (rw[q.1,q.2];try rfl) | (simp only[q.1,q.2];rfl))
def c_wnard:Cd:=⟨160,[.agg kSc],[.agg kSc],rd_Sc fun a _=>d_Sc (vnar a) [],T0⟩
def wl:Tr:=
(.call 0 (kSc++[.bool]) (.vs 0 6 .nil) 6
(.leaf (.vs 6 6 .nil)))
theorem adJ:c_wnard.Ok Tryz.prog:=
 oks wl (v_Sc []) cS (olc tf ol0) Tryz.func160<|cM fun a ha hp U g=>by
 simp only[q_Sc,gS1,Nat.reduceAdd] at g
 simp only[wl,spQ,c_wnar,rdZ,rdB,rdL,c_wnard,q_Sc,simQ,ab,S1,Nat.reduceSub,Nat.reduceAdd,-eq_self,cN,g]
 refine af ?_
 ·rfl
def c_wlow:Cd:=⟨163,[.agg kSc],[.agg kSc],rd_Sc fun a _=>d_Sc (vlow a) [],T0⟩
def abD:Tr:=
(.call 0 (kRg) (.vs 0 4 .nil) 6
(.call 1 (kKn) (.vs 4 2 (.cons (.lit 32) .nil)) 10
(.call 2 (kSc) (.vs 6 6 .nil) 12
(.leaf (.vs 12 6 .nil)))))
theorem anj:c_wlow.Ok Tryz.prog:=
 oks abD (v_Sc []) cS (olc aig<|olc xG<|olc adJ ol0) Tryz.func163<|cM fun a ha hp U g=>by
 simp only[q_Sc,q_Rg,q_Kn,gS1,Nat.reduceAdd] at g
 simp only[abD,spQ,c_rlow,c_qcut,c_wnard,rdZ,rdB,rdL,c_wlow,q_Sc,q_Rg,q_Kn,simQ,ab,S1,Nat.reduceSub,Nat.reduceAdd,-eq_self,cN,g]
 refine af ?_
 refine af ?_
 refine af ?_
 ·rfl
def c_wby4:Cd:=⟨48,[.one (.lit .i64 4)],[.agg kSc],fun _=>d_Sc (vbel 4294967295) [],T0⟩
def abG:Tr:=
(.call 0 (kSc) .nil 0
(.call 1 (kKn) .nil 6
(.call 2 (kKn) (.vs 6 2 (.cons (.lit 32) .nil)) 8
(.call 3 (kSc++[.bool]) (.cons (.var 0) (.cons (.lit 4294967295) (.vs 2 2 (.vs 8 2 .nil)))) 10
(.leaf (.vs 10 6 .nil))))))
theorem aia:c_wby4.Ok Tryz.prog:=
 oks abG [] cS (olc nH<|olc nM<|olc xG<|olc tf ol0) Tryz.func48<|fun hp U g=>by
 simp only[abG,spQ,c_wall,c_qall,c_qcut,c_wnar,rdZ,rdB,rdL,c_wby4,q_Sc,q_Kn,simQ,ab,S1,Nat.reduceSub,Nat.reduceAdd,-eq_self,cN]
 refine af ?_
 refine af ?_
 refine af ?_
 refine af ?_
 ·(rw[show kcut kall 32=(⟨0,4294967295⟩:Kn) from by decide +kernel];rfl)
def c_wdo:Cd:=⟨97,[.one (.int .i8),.one (.int .i8),.agg kSc,.agg kSc],[.agg kSc],rdZ fun op=>rdZ fun l=>rd_Sc fun a=>rd_Sc fun b _=>d_Sc (vdo op l a b) [],T0⟩
def yr:E:=(.cons (.var 0) (.cons (.lit 32) (.vs 22 2 (.vs 28 2 .nil))))
def aiY:Tr:=(.br (.bw 52)
(.leaf (.vs 46 6 .nil))
(.call 12 (kSc) .nil 53
(.leaf (.vs 53 6 .nil))))
def aiZ:Tr:=(.br (.bw 56)
(.leaf (.vs 50 6 .nil))
(.call 12 (kSc) .nil 57
(.leaf (.vs 57 6 .nil))))
def ai0:Tr:=(.call 4 (kKn) yr 40
(.call 11 (kSc++[.bool]) (.vs 34 4 (.vs 40 2 .nil)) 42
(.br (.bw 48)
(.leaf (.vs 42 6 .nil))
(.call 12 (kSc) .nil 49
(.leaf (.vs 49 6 .nil))))))
def rp:Tr:=(.br (.lt (.var 35) (.lit 4294967296))
 ai0
 ai0)
def ai1:Tr:=(.br (.bw 39)
(.br (.eq (.var 0) (.lit 8))
 rp
(.br (.eq (.var 0) (.lit 12))
 rp
(.call 10 (kRg) (.cons (.bin .rem .u64 (.var 38) (.lit 32)) .nil) 40
(.call 3 (kRg) (.cons (.var 0) (.vs 18 4 (.vs 40 4 .nil))) 44
(.br (.lt (.var 45) (.lit 4294967296))
(.call 4 (kKn) yr 48
(.call 11 (kSc++[.bool]) (.vs 44 6 .nil) 50
 aiZ))
(.call 4 (kKn) yr 48
(.call 11 (kSc++[.bool]) (.vs 34 4 (.vs 48 2 .nil)) 50
 aiZ)))))))
 rp)
def abF:Tr:=
(.call 0 [.int .u64,.int .i64] (.vs 0 2 .nil) 14
(.call 1 [.bool] (.vs 2 6 .nil) 16
(.br (.bw 16)
(.call 1 [.bool] (.vs 8 6 .nil) 17
(.br (.bw 17)
(.br (.eq (.var 15) (.lit 0))
(.br (.eq (.var 1) (.lit 64))
(.call 3 (kRg) (.cons (.var 0) (.vs 2 4 (.vs 8 4 .nil))) 18
(.call 4 (kKn) (.cons (.var 0) (.cons (.lit 64) (.vs 6 2 (.vs 12 2 .nil)))) 22
(.call 5 (kSc) (.vs 18 6 .nil) 24
(.leaf (.vs 24 6 .nil)))))
(.call 6 (kSc) (.vs 2 6 .nil) 18
(.call 6 (kSc) (.vs 8 6 .nil) 24
(.call 8 (kRg) .nil 30
(.call 7 (kRg) (.vs 30 4 .nil) 34
(.call 9 [.int .u64,.bool] (.vs 24 6 .nil) 38
(.br (.eq (.var 0) (.lit 6))
 ai1
(.br (.eq (.var 0) (.lit 7))
 ai1
(.br (.eq (.var 0) (.lit 12))
(.br (.bw 39)
(.br (.eq (.var 0) (.lit 8))
 rp
 rp)
 rp)
(.br (.eq (.var 0) (.lit 8))
 rp
(.call 3 (kRg) (.cons (.var 0) (.vs 18 4 (.vs 24 4 .nil))) 40
(.br (.lt (.var 41) (.lit 4294967296))
(.call 4 (kKn) yr 44
(.call 11 (kSc++[.bool]) (.vs 40 6 .nil) 46
 aiY))
(.call 4 (kKn) yr 44
(.call 11 (kSc++[.bool]) (.vs 34 4 (.vs 44 2 .nil)) 46
 aiY))))))))))))))
(.call 2 (kSc) .nil 18
(.leaf (.vs 18 6 .nil))))
(.call 2 (kSc) .nil 18
(.leaf (.vs 18 6 .nil)))))
(.call 2 (kSc) .nil 17
(.leaf (.vs 17 6 .nil))))))
theorem amE:bp aaI (smN 0 [c_rbits0,c_wmay,c_wall,c_rdo,c_qdo,c_wnard,c_wlow,c_rlow,c_rall,c_wsingle,c_rone,c_wnar,c_wby4]) [] [] [] 200 Tryz.f97 c_wdo.a c_wdo.r (tp c_wdo.r) (.int .i8::.int .i8::v_Sc (v_Sc [])) abF:=trI (by kernel_rfl)
theorem apd:c_wdo.Ok Tryz.prog:=
 okc abF (.int .i8::.int .i8::v_Sc (v_Sc [])) cS (olc agB<|olc th<|olc nH<|olc api<|olc apj<|olc adJ<|olc anj<|olc aig<|olc nL<|olc adI<|olc aif<|olc tf<|olc aia ol0) Tryz.func97 fn0 amE<|fun op hop l hl=>cM fun a ha=>cM fun b hb hp U g=>by
 simp only[q_Sc,q_Rg,q_Kn,gS1,Nat.reduceAdd] at g
 simp only[abF,ai1,rp,ai0,aiZ,aiY,yr,spQ,c_rbits0,c_wmay,c_wall,c_rdo,c_qdo,c_wnard,c_wlow,c_rlow,c_rall,c_wsingle,c_rone,c_wnar,c_wby4,rdZ,rdB,rdL,c_wdo,q_Sc,q_Rg,q_Kn,simQ,ab,S1,Nat.reduceSub,Nat.reduceAdd,-eq_self,cN,g]
 refine af ?_
 refine af ?_
 constructor<;>intro c0
 refine af ?_
 constructor<;>intro c1
 constructor<;>intro c2
 constructor<;>intro c3
 refine af ?_
 refine af ?_
 refine af ?_
 ·(obtain rfl:=eqz c3;exact aU (aoN c0 c1 (cQ c2)).symm)
 refine af ?_
 refine af ?_
 refine af ?_
 refine af ?_
 refine af ?_
 constructor<;>intro c4
 constructor<;>intro c5
 constructor<;>intro c6
 constructor<;>intro c7
 refine af ?_
 refine af ?_
 constructor<;>intro c8
 ·(exfalso;have h1:=eqz c4;have h2:=eqz c6;omega)
 refine af ?_
 ·(exfalso;have h1:=eqz c4;have h2:=eqz c6;omega)
 refine af ?_
 refine af ?_
 constructor<;>intro c9
 ·(exfalso;have h1:=eqz c4;have h2:=eqz c6;omega)
 refine af ?_
 ·(exfalso;have h1:=eqz c4;have h2:=eqz c6;omega)
 constructor<;>intro c10
 constructor<;>intro c11
 refine af ?_
 refine af ?_
 constructor<;>intro c12
 ·(exfalso;have h1:=eqz c4;have h2:=eqz c10;omega)
 refine af ?_
 ·(exfalso;have h1:=eqz c4;have h2:=eqz c10;omega)
 refine af ?_
 refine af ?_
 constructor<;>intro c13
 ·(exfalso;have h1:=eqz c4;have h2:=eqz c10;omega)
 refine af ?_
 ·(exfalso;have h1:=eqz c4;have h2:=eqz c10;omega)
 refine af ?_
 refine af ?_
 constructor<;>intro c14
 refine af ?_
 refine af ?_
 constructor<;>intro c15
 ·exact aU (wd_1 c0 c1 (cQ c2) (nez c3) (vh_s (gX (Sc.wf_of hb)) (.inl (eqz c4)) c5) c14 c15).symm
 refine af ?_
 ·exact aU (wd_2 c0 c1 (cQ c2) (nez c3) (vh_s (gX (Sc.wf_of hb)) (.inl (eqz c4)) c5) c14 c15).symm
 refine af ?_
 refine af ?_
 constructor<;>intro c16
 ·exact aU (wd_3 c0 c1 (cQ c2) (nez c3) (vh_s (gX (Sc.wf_of hb)) (.inl (eqz c4)) c5) c14 c16).symm
 refine af ?_
 ·exact aU (wd_4 c0 c1 (cQ c2) (nez c3) (vh_s (gX (Sc.wf_of hb)) (.inl (eqz c4)) c5) c14 c16).symm
 constructor<;>intro c17
 refine af ?_
 refine af ?_
 constructor<;>intro c18
 ·exact aU (wd_1 c0 c1 (cQ c2) (nez c3) (vh_o (.inl (eqz c4)) c5) c17 c18).symm
 refine af ?_
 ·exact aU (wd_2 c0 c1 (cQ c2) (nez c3) (vh_o (.inl (eqz c4)) c5) c17 c18).symm
 refine af ?_
 refine af ?_
 constructor<;>intro c19
 ·exact aU (wd_3 c0 c1 (cQ c2) (nez c3) (vh_o (.inl (eqz c4)) c5) c17 c19).symm
 refine af ?_
 ·exact aU (wd_4 c0 c1 (cQ c2) (nez c3) (vh_o (.inl (eqz c4)) c5) c17 c19).symm
 constructor<;>intro c20
 constructor<;>intro c21
 constructor<;>intro c22
 constructor<;>intro c23
 refine af ?_
 refine af ?_
 constructor<;>intro c24
 ·(exfalso;have h1:=eqz c20;have h2:=eqz c22;omega)
 refine af ?_
 ·(exfalso;have h1:=eqz c20;have h2:=eqz c22;omega)
 refine af ?_
 refine af ?_
 constructor<;>intro c25
 ·(exfalso;have h1:=eqz c20;have h2:=eqz c22;omega)
 refine af ?_
 ·(exfalso;have h1:=eqz c20;have h2:=eqz c22;omega)
 constructor<;>intro c26
 constructor<;>intro c27
 refine af ?_
 refine af ?_
 constructor<;>intro c28
 ·(exfalso;have h1:=eqz c20;have h2:=eqz c26;omega)
 refine af ?_
 ·(exfalso;have h1:=eqz c20;have h2:=eqz c26;omega)
 refine af ?_
 refine af ?_
 constructor<;>intro c29
 ·(exfalso;have h1:=eqz c20;have h2:=eqz c26;omega)
 refine af ?_
 ·(exfalso;have h1:=eqz c20;have h2:=eqz c26;omega)
 refine af ?_
 refine af ?_
 constructor<;>intro c30
 refine af ?_
 refine af ?_
 constructor<;>intro c31
 ·exact aU (wd_1 c0 c1 (cQ c2) (nez c3) (vh_s (gX (Sc.wf_of hb)) (.inr (eqz c20)) c21) c30 c31).symm
 refine af ?_
 ·exact aU (wd_2 c0 c1 (cQ c2) (nez c3) (vh_s (gX (Sc.wf_of hb)) (.inr (eqz c20)) c21) c30 c31).symm
 refine af ?_
 refine af ?_
 constructor<;>intro c32
 ·exact aU (wd_3 c0 c1 (cQ c2) (nez c3) (vh_s (gX (Sc.wf_of hb)) (.inr (eqz c20)) c21) c30 c32).symm
 refine af ?_
 ·exact aU (wd_4 c0 c1 (cQ c2) (nez c3) (vh_s (gX (Sc.wf_of hb)) (.inr (eqz c20)) c21) c30 c32).symm
 constructor<;>intro c33
 refine af ?_
 refine af ?_
 constructor<;>intro c34
 ·exact aU (wd_1 c0 c1 (cQ c2) (nez c3) (vh_o (.inr (eqz c20)) c21) c33 c34).symm
 refine af ?_
 ·exact aU (wd_2 c0 c1 (cQ c2) (nez c3) (vh_o (.inr (eqz c20)) c21) c33 c34).symm
 refine af ?_
 refine af ?_
 constructor<;>intro c35
 ·exact aU (wd_3 c0 c1 (cQ c2) (nez c3) (vh_o (.inr (eqz c20)) c21) c33 c35).symm
 refine af ?_
 ·exact aU (wd_4 c0 c1 (cQ c2) (nez c3) (vh_o (.inr (eqz c20)) c21) c33 c35).symm
 constructor<;>intro c36
 constructor<;>intro c37
 constructor<;>intro c38
 constructor<;>intro c39
 refine af ?_
 refine af ?_
 constructor<;>intro c40
 ·(exfalso;have h1:=eqz c36;have h2:=eqz c38;omega)
 refine af ?_
 ·(exfalso;have h1:=eqz c36;have h2:=eqz c38;omega)
 refine af ?_
 refine af ?_
 constructor<;>intro c41
 ·(exfalso;have h1:=eqz c36;have h2:=eqz c38;omega)
 refine af ?_
 ·(exfalso;have h1:=eqz c36;have h2:=eqz c38;omega)
 constructor<;>intro c42
 refine af ?_
 refine af ?_
 constructor<;>intro c43
 ·exact aU (wd_1 c0 c1 (cQ c2) (nez c3) (vh_n (.inr (eqz c36))) c42 c43).symm
 refine af ?_
 ·exact aU (wd_2 c0 c1 (cQ c2) (nez c3) (vh_n (.inr (eqz c36))) c42 c43).symm
 refine af ?_
 refine af ?_
 constructor<;>intro c44
 ·exact aU (wd_3 c0 c1 (cQ c2) (nez c3) (vh_n (.inr (eqz c36))) c42 c44).symm
 refine af ?_
 ·exact aU (wd_4 c0 c1 (cQ c2) (nez c3) (vh_n (.inr (eqz c36))) c42 c44).symm
 constructor<;>intro c45
 refine af ?_
 refine af ?_
 constructor<;>intro c46
 ·exact aU (wd_1 c0 c1 (cQ c2) (nez c3) (vh_n (.inr (eqz c36))) c45 c46).symm
 refine af ?_
 ·exact aU (wd_2 c0 c1 (cQ c2) (nez c3) (vh_n (.inr (eqz c36))) c45 c46).symm
 refine af ?_
 refine af ?_
 constructor<;>intro c47
 ·exact aU (wd_3 c0 c1 (cQ c2) (nez c3) (vh_n (.inr (eqz c36))) c45 c47).symm
 refine af ?_
 ·exact aU (wd_4 c0 c1 (cQ c2) (nez c3) (vh_n (.inr (eqz c36))) c45 c47).symm
 constructor<;>intro c48
 constructor<;>intro c49
 refine af ?_
 refine af ?_
 constructor<;>intro c50
 ·exact aU (wd_1 c0 c1 (cQ c2) (nez c3) (vh_n (.inl (eqz c48))) c49 c50).symm
 refine af ?_
 ·exact aU (wd_2 c0 c1 (cQ c2) (nez c3) (vh_n (.inl (eqz c48))) c49 c50).symm
 refine af ?_
 refine af ?_
 constructor<;>intro c51
 ·exact aU (wd_3 c0 c1 (cQ c2) (nez c3) (vh_n (.inl (eqz c48))) c49 c51).symm
 refine af ?_
 ·exact aU (wd_4 c0 c1 (cQ c2) (nez c3) (vh_n (.inl (eqz c48))) c49 c51).symm
 refine af ?_
 constructor<;>intro c52
 refine af ?_
 refine af ?_
 constructor<;>intro c53
 ·exact aU (wd_1 c0 c1 (cQ c2) (nez c3) (vh_d (nez c4) (nez c20) (nez c48) (nez c36)) c52 c53).symm
 refine af ?_
 ·exact aU (wd_2 c0 c1 (cQ c2) (nez c3) (vh_d (nez c4) (nez c20) (nez c48) (nez c36)) c52 c53).symm
 refine af ?_
 refine af ?_
 constructor<;>intro c54
 ·exact aU (wd_3 c0 c1 (cQ c2) (nez c3) (vh_d (nez c4) (nez c20) (nez c48) (nez c36)) c52 c54).symm
 refine af ?_
 ·exact aU (wd_4 c0 c1 (cQ c2) (nez c3) (vh_d (nez c4) (nez c20) (nez c48) (nez c36)) c52 c54).symm
 refine af ?_
 ·(have hk:=ah0 c2;exact aU (aj5 (fun q=>by simp_all)).symm)
 refine af ?_
 ·exact aU (aj5 (fun q=>by simp_all)).symm
 refine af ?_
 ·exact aU (aj5 (fun q=>by simp_all)).symm
def c_wgiv:Cd:=⟨105,[.one (.int .i8),.agg kSc,.agg kSc],[.agg kSc,.one .bool],rdZ fun cc=>rd_Sc fun a=>rd_Sc fun b _=>d_Sc (vgiv cc a b) [.z (b2i (vgok cc a b))],T0⟩
def abE:Tr:=
(.call 0 [.bool] (.vs 1 6 .nil) 13
(.br (.bw 13)
(.call 0 [.bool] (.vs 7 6 .nil) 14
(.br (.bw 14)
(.call 2 (kRg++[.bool]) (.vs 0 5 (.vs 7 4 .nil)) 15
(.br (.bw 19)
(.br (.eq (.var 0) (.lit 0))
(.call 3 (kKn++[.bool]) (.vs 5 2 (.vs 11 2 .nil)) 20
(.br (.bw 22)
(.call 4 (kSc++[.bool]) (.vs 15 4 (.vs 20 2 .nil)) 23
(.leaf (.vs 23 6 (.consb (.bw 29) .nil))))
(.call 1 (kSc) .nil 23
(.leaf (.vs 23 6 (.consb (.tt false) .nil))))))
(.call 4 (kSc++[.bool]) (.vs 15 4 (.vs 5 2 .nil)) 20
(.leaf (.vs 20 6 (.consb (.bw 26) .nil)))))
(.call 1 (kSc) .nil 20
(.leaf (.vs 20 6 (.consb (.tt false) .nil))))))
(.call 1 (kSc) .nil 15
(.leaf (.vs 15 6 (.consb (.tt false) .nil))))))
(.call 1 (kSc) .nil 14
(.leaf (.vs 14 6 (.consb (.tt false) .nil))))))
theorem ank:c_wgiv.Ok Tryz.prog:=
 oks abE (.int .i8::v_Sc (v_Sc [])) cS (olc th<|olc nH<|olc anB<|olc adV<|olc tf ol0) Tryz.func105<|fun cc hcc=>cM fun a ha=>cM fun b hb hp U g=>by
 simp only[q_Sc,q_Rg,q_Kn,gS1,Nat.reduceAdd] at g
 simp only[abE,spQ,c_wmay,c_wall,c_rgiv,c_qmeet,c_wnar,rdZ,rdB,rdL,c_wgiv,q_Sc,q_Rg,q_Kn,simQ,ab,S1,Nat.reduceSub,Nat.reduceAdd,-eq_self,cN,g]
 refine af ?_
 constructor<;>intro c0
 refine af ?_
 constructor<;>intro c1
 refine af ?_
 constructor<;>intro c2
 constructor<;>intro c3
 refine af ?_
 constructor<;>intro c4
 refine af ?_
 ·(have q:=vg_0 c0 c1 c2 c3 c4;rw[q.1,q.2];try rfl)
 refine af ?_
 ·(have q:=vg_f (cc:=cc) (a:=a) (b:=b) (.inr (.inr (.inr ⟨c3,c4⟩)));rw[q.1,q.2];try rfl)
 refine af ?_
 ·(have q:=vg_n c0 c1 c2 c3;rw[q.1,q.2];try rfl)
 refine af ?_
 ·(have q:=vg_f (cc:=cc) (a:=a) (b:=b) (.inr (.inr (.inl c2)));rw[q.1,q.2];try rfl)
 refine af ?_
 ·(have q:=vg_f (cc:=cc) (a:=a) (b:=b) (.inr (.inl c1));rw[q.1,q.2];try rfl)
 refine af ?_
 ·(have q:=vg_f (cc:=cc) (a:=a) (b:=b) (.inl c0);rw[q.1,q.2];try rfl)
theorem lG {p q q2:Prop} (k:q2) (h:p->q=q2:=by intro e;(try simp only[e,cN,-eq_self]);rfl):p->q:=fun e=>(h e).symm▸k
def aj9:List (Nat×TI):=[(2,tiq2),
 (3,tiq3),
 (37,dS),
 (42,dR),
 (44,ew),
 (46,fR),
 (48,aaU),
 (105,jd)]
theorem aav:∀t i,(t,i)∈aj9->TIok Tryz.prog t i:=aV fa0 fa0 (by kernel_rfl)
def c_wby:Cd:=⟨48,[.one (.int .i64)],[.agg kSc],rdZ fun q _=>d_Sc (vbyt q) [],T0⟩
def aiX:E:=(.bin .mul .i64 (.lit 8) (.mn (.mx (.var 0) (.lit 1)) (.lit 8)))
def ae1:E:=(.bin .sub .u64 (.bin .shl .u64 (.lit 1) (.conv .u64 aiX)) (.lit 1))
def ae2:Tr:=(.call 3 (kSc++[.bool]) (.cons (.var 1) (.cons ae1 (.vs 3 2 (.vs 9 2 .nil)))) 11
(.leaf (.vs 11 6 .nil)))
def ahx:Tr:=
(.call 0 (kSc) .nil 1
(.br (.lt (.mn (.mx (.var 0) (.lit 1)) (.lit 8)) (.lit 8))
(.call 1 (kKn) .nil 7
(.call 2 (kKn) (.vs 7 2 (.cons (.conv .i8 aiX) .nil)) 9
(.br (.eq (.mn (.mx (.var 0) (.lit 1)) (.lit 8)) (.lit 1))
 ae2
(.br (.eq (.mn (.mx (.var 0) (.lit 1)) (.lit 8)) (.lit 2))
 ae2
(.br (.eq (.mn (.mx (.var 0) (.lit 1)) (.lit 8)) (.lit 4))
 ae2
(.call 3 (kSc++[.bool]) (.cons (.var 1) (.cons ae1 (.vs 3 2 (.cons (.lit 0) (.cons ae1 .nil))))) 11
(.leaf (.vs 11 6 .nil))))))))
(.call 3 (kSc++[.bool]) (.vs 1 6 .nil) 7
(.leaf (.vs 7 6 .nil)))))
theorem anl:c_wby.Ok Tryz.prog:=
 oks ahx [.int .i64] aav (olc nH<|olc nM<|olc xG<|olc tf ol0) Tryz.func48<|fun q hq hp U g=>by
 simp only[q_Sc,q_Kn,gS1,Nat.reduceAdd] at g
 simp only[ahx,ae2,ae1,aiX,spQ,c_wall,c_qall,c_qcut,c_wnar,rdZ,rdB,rdL,c_wby,q_Sc,q_Kn,simQ,ab,S1,Nat.reduceSub,Nat.reduceAdd,-eq_self,cN,g]
 refine lG ?_
 constructor<;>intro c0
 refine lG ?_
 refine lG ?_
 constructor<;>intro c1
 refine lG ?_
 ·rcases eg q with h | h | h | h | h | h | h | h
  ·refine aU ?_;simp only[vbyt,h,vbel];refine congrArg vnar ?_;simp only[vall,sc,Sc.mk.injEq];decide +kernel
  ·exfalso;rw[h] at c0 c1;revert c0 c1;decide
  ·exfalso;rw[h] at c0 c1;revert c0 c1;decide
  ·exfalso;rw[h] at c0 c1;revert c0 c1;decide
  ·exfalso;rw[h] at c0 c1;revert c0 c1;decide
  ·exfalso;rw[h] at c0 c1;revert c0 c1;decide
  ·exfalso;rw[h] at c0 c1;revert c0 c1;decide
  ·exfalso;rw[h] at c0 c1;revert c0 c1;decide
 constructor<;>intro c2
 refine lG ?_
 ·rcases eg q with h | h | h | h | h | h | h | h
  ·exfalso;rw[h] at c0 c1 c2;revert c0 c1 c2;decide
  ·refine aU ?_;simp only[vbyt,h,vbel];refine congrArg vnar ?_;simp only[vall,sc,Sc.mk.injEq];decide +kernel
  ·exfalso;rw[h] at c0 c1 c2;revert c0 c1 c2;decide
  ·exfalso;rw[h] at c0 c1 c2;revert c0 c1 c2;decide
  ·exfalso;rw[h] at c0 c1 c2;revert c0 c1 c2;decide
  ·exfalso;rw[h] at c0 c1 c2;revert c0 c1 c2;decide
  ·exfalso;rw[h] at c0 c1 c2;revert c0 c1 c2;decide
  ·exfalso;rw[h] at c0 c1 c2;revert c0 c1 c2;decide
 constructor<;>intro c3
 refine lG ?_
 ·rcases eg q with h | h | h | h | h | h | h | h
  ·exfalso;rw[h] at c0 c1 c2 c3;revert c0 c1 c2 c3;decide
  ·exfalso;rw[h] at c0 c1 c2 c3;revert c0 c1 c2 c3;decide
  ·exfalso;rw[h] at c0 c1 c2 c3;revert c0 c1 c2 c3;decide
  ·refine aU ?_;simp only[vbyt,h,vbel];refine congrArg vnar ?_;simp only[vall,sc,Sc.mk.injEq];decide +kernel
  ·exfalso;rw[h] at c0 c1 c2 c3;revert c0 c1 c2 c3;decide
  ·exfalso;rw[h] at c0 c1 c2 c3;revert c0 c1 c2 c3;decide
  ·exfalso;rw[h] at c0 c1 c2 c3;revert c0 c1 c2 c3;decide
  ·exfalso;rw[h] at c0 c1 c2 c3;revert c0 c1 c2 c3;decide
 refine lG ?_
 ·rcases eg q with h | h | h | h | h | h | h | h
  ·exfalso;rw[h] at c0 c1 c2 c3;revert c0 c1 c2 c3;decide
  ·exfalso;rw[h] at c0 c1 c2 c3;revert c0 c1 c2 c3;decide
  ·refine aU ?_;simp only[vbyt,h,vbel];refine congrArg vnar ?_;simp only[vall,sc,Sc.mk.injEq];decide +kernel
  ·exfalso;rw[h] at c0 c1 c2 c3;revert c0 c1 c2 c3;decide
  ·refine aU ?_;simp only[vbyt,h,vbel];refine congrArg vnar ?_;simp only[vall,sc,Sc.mk.injEq];decide +kernel
  ·refine aU ?_;simp only[vbyt,h,vbel];refine congrArg vnar ?_;simp only[vall,sc,Sc.mk.injEq];decide +kernel
  ·refine aU ?_;simp only[vbyt,h,vbel];refine congrArg vnar ?_;simp only[vall,sc,Sc.mk.injEq];decide +kernel
  ·exfalso;rw[h] at c0 c1 c2 c3;revert c0 c1 c2 c3;decide
 refine lG ?_
 ·rcases eg q with h | h | h | h | h | h | h | h
  ·exfalso;rw[h] at c0;revert c0;decide
  ·exfalso;rw[h] at c0;revert c0;decide
  ·exfalso;rw[h] at c0;revert c0;decide
  ·exfalso;rw[h] at c0;revert c0;decide
  ·exfalso;rw[h] at c0;revert c0;decide
  ·exfalso;rw[h] at c0;revert c0;decide
  ·exfalso;rw[h] at c0;revert c0;decide
  ·refine aU ?_;simp only[vbyt,h,vbel];refine congrArg vnar ?_;simp only[vall,sc,Sc.mk.injEq];decide +kernel
theorem cu {p q q2:Prop} (k:q2) (h:p->q=q2:=by intro e;(try simp only[e,bj,-eq_self]);rfl):p->q:=fun e=>(h e).symm▸k
def akd:List (Nat×TI):=[(2,tiq2),
 (3,tiq3),
 (5,⟨false,1,[.int .u8 (.lit 0)],[],none,some .u8,false,false,none,1,false,none,false,0⟩),
 (37,dS),
 (42,dR),
 (44,ew),
 (46,fR),
 (48,cK),
 (50,jT),
 (51,mK),
 (52,mJ),
 (54,uf),
 (80,⟨true,11,(zN 11 11111111111),[],some (11,42),none,false,false,none,88,false,none,false,0⟩),
 (81,⟨true,64,(zN 64 3333333333333333333333333333333333333333333333333333333333333333),[],some (64,5),none,false,false,none,64,false,none,false,0⟩),
 (83,⟨true,76,(zN 76 3333333333333333333333333333333333333333333333333333333333333333211111111111),[(0,80),(11,3),(12,81)],none,none,false,false,none,160,false,none,false,0⟩)]
theorem hG:∀t i,(t,i)∈akd->TIok Tryz.prog t i:=aV (fac (z:=z_Sc) ⟨kG,fN⟩<|fac (z:=z_Ty) ⟨kF,fM⟩ fa0) fa0 (by kernel_rfl)
def c_yscal:Cd:=⟨52,[],[.agg kTy],fun _=>d_Ty ea [],T0⟩
def we:Tr:=
(.call 0 (kSc) .nil 0
(.leaf (.cons (.lit 1) (.vs 0 6 (.cons (.lit 0) (.cons (.lit 0) .nil))))))
theorem qK:c_yscal.Ok Tryz.prog:=
 oks we [] hG (olc nH ol0) Tryz.func52<|fun hp U g=>by
 simp only[we,spQ,c_wall,rdZ,rdB,rdL,c_yscal,q_Ty,q_Sc,simQ,ab,S1,Nat.reduceSub,Nat.reduceAdd,-eq_self,bj]
 refine cu ?_
 ·rfl
def c_ytok:Cd:=⟨94,[.agg kTy],[.one .bool],rd_Ty fun t _=>[.z (b2i (tok t))],T0⟩
def aiW:Tr:=(.br (.lt (.var 8) (.var 7))
 zlF
(.br (.lt (.var 7) (.lit (-1048576)))
 zlF
(.br (.lt (.lit 1048576) (.var 8))
 zlF
(.leaf (.consb (.and (.eq (.var 1) (.lit 0)) (.and (.eq (.var 2) (.lit 0)) (.and (.eq (.var 3) (.lit 0)) (.and (.eq (.var 4) (.lit 0)) (.and (.eq (.var 5) (.lit 0)) (.and (.eq (.var 6) (.lit 0)) (.tt true))))))) .nil)))))
def abx:Tr:=
(.br (.eq (.var 0) (.lit 0))
(.leaf (.consb (.and (.eq (.var 0) (.lit 0)) (.and (.eq (.var 1) (.lit 0)) (.and (.eq (.var 2) (.lit 0)) (.and (.eq (.var 3) (.lit 0)) (.and (.eq (.var 4) (.lit 0)) (.and (.eq (.var 5) (.lit 0)) (.and (.eq (.var 6) (.lit 0)) (.and (.eq (.var 7) (.lit 0)) (.and (.eq (.var 8) (.lit 0)) (.tt true)))))))))) .nil))
(.br (.eq (.var 0) (.lit 1))
(.call 0 [.bool] (.vs 1 6 .nil) 9
(.br (.bw 9)
(.br (.eq (.var 7) (.lit 0))
(.leaf (.consb (.eq (.var 8) (.lit 0)) .nil))
 zlF)
 zlF))
(.br (.eq (.var 0) (.lit 2))
 aiW
(.br (.eq (.var 0) (.lit 3))
 aiW
 zlF))))
theorem ah6:c_ytok.Ok Tryz.prog:=
 oks abx (v_Ty []) hG (olc th ol0) Tryz.func94<|bE fun t ht hp U g=>by
 simp only[q_Ty,q_Sc,gS1,Nat.reduceAdd] at g
 simp only[abx,aiW,spQ,c_wmay,rdZ,rdB,rdL,c_ytok,q_Ty,q_Sc,simQ,ab,S1,Nat.reduceSub,Nat.reduceAdd,-eq_self,bj,g]
 constructor<;>intro c0
 ·(unfold tok;simp_all [cv,Bool.and_assoc]<;>first | (intros;omega) | (rw[ao];simp;done))
 constructor<;>intro c1
 refine cu ?_
 constructor<;>intro c2
 constructor<;>intro c3
 ·(unfold tok;simp_all [cv,Bool.and_assoc]<;>first | (intros;omega) | (rw[ao];simp;done))
 ·(unfold tok;simp_all [cv,Bool.and_assoc]<;>first | (intros;omega) | (rw[ao];simp;done))
 ·(unfold tok;simp_all [cv,Bool.and_assoc]<;>first | (intros;omega) | (rw[ao];simp;done))
 constructor<;>intro c4
 constructor<;>intro c5
 ·(unfold tok;simp_all [cv,Bool.and_assoc]<;>first | (intros;omega) | (rw[ao];simp;done))
 constructor<;>intro c6
 ·(unfold tok;simp_all [cv,Bool.and_assoc]<;>first | (intros;omega) | (rw[ao];simp;done))
 constructor<;>intro c7
 ·(unfold tok;simp_all [cv,Bool.and_assoc]<;>first | (intros;omega) | (rw[ao];simp;done))
 ·(unfold tok;simp_all [cv,Bool.and_assoc]<;>first | (intros;omega) | (rw[ao];simp;done))
 constructor<;>intro c8
 constructor<;>intro c9
 ·(unfold tok;simp_all [cv,Bool.and_assoc]<;>first | (intros;omega) | (rw[ao];simp;done))
 constructor<;>intro c10
 ·(unfold tok;simp_all [cv,Bool.and_assoc]<;>first | (intros;omega) | (rw[ao];simp;done))
 constructor<;>intro c11
 ·(unfold tok;simp_all [cv,Bool.and_assoc]<;>first | (intros;omega) | (rw[ao];simp;done))
 ·(unfold tok;simp_all [cv,Bool.and_assoc]<;>first | (intros;omega) | (rw[ao];simp;done))
 ·(unfold tok;simp_all [cv,Bool.and_assoc]<;>first | (intros;omega) | (rw[ao];simp;done))
def c_ymay:Cd:=⟨43,[.agg kSta],[.one .bool],rd_Sta fun s _=>[.z (b2i (smay s))],T0⟩
def aby:Tr:=
(.call 0 [.bool] (.vs 0 9 .nil) 171
(.br (.bw 171)
(.call 0 [.bool] (.vs 9 9 .nil) 172
(.br (.bw 172)
(.call 0 [.bool] (.vs 18 9 .nil) 173
(.br (.bw 173)
(.call 0 [.bool] (.vs 27 9 .nil) 174
(.br (.bw 174)
(.call 0 [.bool] (.vs 36 9 .nil) 175
(.br (.bw 175)
(.call 0 [.bool] (.vs 45 9 .nil) 176
(.br (.bw 176)
(.call 0 [.bool] (.vs 54 9 .nil) 177
(.br (.bw 177)
(.call 0 [.bool] (.vs 63 9 .nil) 178
(.br (.bw 178)
(.call 0 [.bool] (.vs 72 9 .nil) 179
(.br (.bw 179)
(.call 0 [.bool] (.vs 81 9 .nil) 180
(.br (.bw 180)
(.call 0 [.bool] (.vs 90 9 .nil) 181
(.br (.bw 181)
(.call 0 [.bool] (.vs 99 9 .nil) 182
(.br (.bw 182)
(.br (.eq (.var 99) (.lit 0))
 zlF
(.call 0 [.bool] (.vs 108 9 .nil) 183
(.br (.bw 183)
(.br (.eq (.var 108) (.lit 0))
 zlF
(.call 0 [.bool] (.vs 117 9 .nil) 184
(.br (.bw 184)
(.br (.eq (.var 117) (.lit 0))
 zlF
(.call 0 [.bool] (.vs 126 9 .nil) 185
(.br (.bw 185)
(.br (.eq (.var 126) (.lit 0))
 zlF
(.call 0 [.bool] (.vs 135 9 .nil) 186
(.br (.bw 186)
(.br (.eq (.var 135) (.lit 0))
 zlF
(.call 0 [.bool] (.vs 144 9 .nil) 187
(.br (.bw 187)
(.br (.eq (.var 144) (.lit 0))
 zlF
(.call 0 [.bool] (.vs 153 9 .nil) 188
(.br (.bw 188)
(.br (.eq (.var 153) (.lit 0))
 zlF
(.call 0 [.bool] (.vs 162 9 .nil) 189
(.br (.bw 189)
(.br (.eq (.var 162) (.lit 0))
 zlF
 zlT)
 zlF)))
 zlF)))
 zlF)))
 zlF)))
 zlF)))
 zlF)))
 zlF)))
 zlF))
 zlF))
 zlF))
 zlF))
 zlF))
 zlF))
 zlF))
 zlF))
 zlF))
 zlF))
 zlF))
 zlF))
theorem ah7:c_ymay.Ok Tryz.prog:=
 oks aby (v_Sta []) hG (olc ah6 ol0) Tryz.func43<|eF fun s hs hp U g=>by
 simp only[c_ymay,bN,ee,rdZ,rdB,rdL]
 simp only[eU,q_Ty,gS1,Nat.reduceAdd] at g
 simp(maxSteps:=10000000) only[aby,spQ,c_ytok,rdZ,rdB,rdL,c_ymay,eU,q_Ty,simQ,ab,S1,Nat.reduceSub,Nat.reduceAdd,-eq_self,bj,g]
 refine cu ?_
 constructor<;>intro c0
 refine cu ?_
 constructor<;>intro c1
 refine cu ?_
 constructor<;>intro c2
 refine cu ?_
 constructor<;>intro c3
 refine cu ?_
 constructor<;>intro c4
 refine cu ?_
 constructor<;>intro c5
 refine cu ?_
 constructor<;>intro c6
 refine cu ?_
 constructor<;>intro c7
 refine cu ?_
 constructor<;>intro c8
 refine cu ?_
 constructor<;>intro c9
 refine cu ?_
 constructor<;>intro c10
 refine cu ?_
 constructor<;>intro c11
 constructor<;>intro c12
 ·(unfold smay tset;simp_all)
 refine cu ?_
 constructor<;>intro c13
 constructor<;>intro c14
 ·(unfold smay tset;simp_all)
 refine cu ?_
 constructor<;>intro c15
 constructor<;>intro c16
 ·(unfold smay tset;simp_all)
 refine cu ?_
 constructor<;>intro c17
 constructor<;>intro c18
 ·(unfold smay tset;simp_all)
 refine cu ?_
 constructor<;>intro c19
 constructor<;>intro c20
 ·(unfold smay tset;simp_all)
 refine cu ?_
 constructor<;>intro c21
 constructor<;>intro c22
 ·(unfold smay tset;simp_all)
 refine cu ?_
 constructor<;>intro c23
 constructor<;>intro c24
 ·(unfold smay tset;simp_all)
 refine cu ?_
 constructor<;>intro c25
 constructor<;>intro c26
 ·(unfold smay tset;simp_all)
 ·(unfold smay tset;simp_all)
 ·(unfold smay tset;simp_all)
 ·(unfold smay tset;simp_all)
 ·(unfold smay tset;simp_all)
 ·(unfold smay tset;simp_all)
 ·(unfold smay tset;simp_all)
 ·(unfold smay tset;simp_all)
 ·(unfold smay tset;simp_all)
 ·(unfold smay tset;simp_all)
 ·(unfold smay tset;simp_all)
 ·(unfold smay tset;simp_all)
 ·(unfold smay tset;simp_all)
 ·(unfold smay tset;simp_all)
 ·(unfold smay tset;simp_all)
 ·(unfold smay tset;simp_all)
 ·(unfold smay tset;simp_all)
 ·(unfold smay tset;simp_all)
 ·(unfold smay tset;simp_all)
 ·(unfold smay tset;simp_all)
 ·(unfold smay tset;simp_all)
def c_yacc:Cd:=⟨103,[.agg kSta,.one (.int .i64),.one (.int .i64),.one (.int .i64)],[.one .bool],rd_Sta fun s=>rdZ fun lo=>rdZ fun hi=>rdZ fun size _=>[.z (b2i (smac s lo hi size))],T0⟩
def abz:Tr:=
(.call 0 [.bool] (.vs 0 171 .nil) 174
(.br (.bw 174)
(.br (.eq (.var 173) (.lit 1))
(.br (.lt (.var 171) (.lit 0))
 zlF
(.br (.lt (.var 172) (.var 171))
 zlF
(.leaf (.consb (.not (.lt (.bin .sub .i64 (.lit 64) (.var 173)) (.var 172))) .nil))))
(.br (.eq (.var 173) (.lit 2))
(.br (.lt (.var 171) (.lit 0))
 zlF
(.br (.lt (.var 172) (.var 171))
 zlF
(.leaf (.consb (.not (.lt (.bin .sub .i64 (.lit 64) (.var 173)) (.var 172))) .nil))))
(.br (.eq (.var 173) (.lit 4))
(.br (.lt (.var 171) (.lit 0))
 zlF
(.br (.lt (.var 172) (.var 171))
 zlF
(.leaf (.consb (.not (.lt (.bin .sub .i64 (.lit 64) (.var 173)) (.var 172))) .nil))))
(.br (.eq (.var 173) (.lit 8))
(.br (.lt (.var 171) (.lit 0))
 zlF
(.br (.lt (.var 172) (.var 171))
 zlF
(.leaf (.consb (.not (.lt (.bin .sub .i64 (.lit 64) (.var 173)) (.var 172))) .nil))))
 zlF))))
 zlF))
theorem ah8:c_yacc.Ok Tryz.prog:=
 oks abz (v_Sta [.int .i64,.int .i64,.int .i64]) hG (olc ah7 ol0) Tryz.func103<|eF fun s hs=>fun lo hlo hi hhi size hsize hp U g=>by
 simp only[c_yacc,bN,ee,rdZ,rdB,rdL]
 simp only[eU,q_Ty,gS1,Nat.reduceAdd] at g
 simp(maxSteps:=10000000) only[abz,spQ,c_ymay,rdZ,rdB,rdL,c_yacc,eU,q_Ty,simQ,ab,S1,Nat.reduceSub,Nat.reduceAdd,-eq_self,bj,g]
 refine cu ?_
 constructor<;>intro c0
 constructor<;>intro c1
 constructor<;>intro c2
 ·rw[ia c2]
 constructor<;>intro c3
 ·rw[ic c3]
 ·rw[ib (.inl c1) c2 c3,c0,Bool.and_true]
 constructor<;>intro c4
 constructor<;>intro c5
 ·rw[ia c5]
 constructor<;>intro c6
 ·rw[ic c6]
 ·rw[ib (.inr (.inl c4)) c5 c6,c0,Bool.and_true]
 constructor<;>intro c7
 constructor<;>intro c8
 ·rw[ia c8]
 constructor<;>intro c9
 ·rw[ic c9]
 ·rw[ib (.inr (.inr (.inl c7))) c8 c9,c0,Bool.and_true]
 constructor<;>intro c10
 constructor<;>intro c11
 ·rw[ia c11]
 constructor<;>intro c12
 ·rw[ic c12]
 ·rw[ib (.inr (.inr (.inr c10))) c11 c12,c0,Bool.and_true]
 ·rw[rZ c1 c4 c7 c10]
 ·rw[afy c0]
def c_yload:Cd:=⟨49,[.agg kSta,.one (.int .i64),.one (.int .i64),.one (.int .i64)],[.agg kTy,.one (.int .i64)],rd_Sta fun s=>rdZ fun lo=>rdZ fun hi=>rdZ fun size _=>d_Ty (mS s lo hi size) [.z (mT s lo hi size)],T0⟩
def wh:Tr:=
(.call 0 [.bool] (.vs 0 174 .nil) 174
(.br (.bw 174)
(.br (.eq (.var 173) (.lit 8))
(.br (.eq (.var 171) (.var 172))
(.br (.eq (.bin .rem .i64 (.var 171) (.lit 8)) (.lit 0))
(.br (.eq (.bin .quo .i64 (.var 171) (.lit 8)) (.lit 0))
(.leaf (.vs 99 9 (.cons (.lit 0) .nil)))
(.br (.eq (.bin .quo .i64 (.var 171) (.lit 8)) (.lit 1))
(.leaf (.vs 108 9 (.cons (.lit 0) .nil)))
(.br (.eq (.bin .quo .i64 (.var 171) (.lit 8)) (.lit 2))
(.leaf (.vs 117 9 (.cons (.lit 0) .nil)))
(.br (.eq (.bin .quo .i64 (.var 171) (.lit 8)) (.lit 3))
(.leaf (.vs 126 9 (.cons (.lit 0) .nil)))
(.br (.eq (.bin .quo .i64 (.var 171) (.lit 8)) (.lit 4))
(.leaf (.vs 135 9 (.cons (.lit 0) .nil)))
(.br (.eq (.bin .quo .i64 (.var 171) (.lit 8)) (.lit 5))
(.leaf (.vs 144 9 (.cons (.lit 0) .nil)))
(.br (.eq (.bin .quo .i64 (.var 171) (.lit 8)) (.lit 6))
(.leaf (.vs 153 9 (.cons (.lit 0) .nil)))
(.br (.eq (.bin .quo .i64 (.var 171) (.lit 8)) (.lit 7))
(.leaf (.vs 162 9 (.cons (.lit 0) .nil)))
.panic))))))))
(.call 1 (kSc) (.cons (.var 173) .nil) 175
(.leaf (.cons (.lit 1) (.vs 175 6 (.zs [0,0,0] .nil))))))
(.call 1 (kSc) (.cons (.var 173) .nil) 175
(.leaf (.cons (.lit 1) (.vs 175 6 (.zs [0,0,0] .nil))))))
(.call 1 (kSc) (.cons (.var 173) .nil) 175
(.leaf (.cons (.lit 1) (.vs 175 6 (.zs [0,0,0] .nil))))))
(.leaf (.zs [0,0,0,0,0,0,0,0,0,2] .nil))))
theorem alA:c_yload.Ok Tryz.prog:=
 oks wh (v_Sta [.int .i64,.int .i64,.int .i64]) hG (olc ah8<|olc anl ol0) Tryz.func49<|eF fun s hs=>fun lo hlo hi hhi size hsize hp U g=>by
 simp only[c_yload,bN,ee,rdZ,rdB,rdL]
 simp only[eU,q_Ty,q_Sc,gS1,Nat.reduceAdd] at g
 simp(maxSteps:=10000000) only[wh,spQ,c_yacc,c_wby,rdZ,rdB,rdL,c_yload,eU,q_Ty,q_Sc,simQ,ab,S1,Nat.reduceSub,Nat.reduceAdd,-eq_self,bj,g]
 refine cu ?_
 constructor<;>intro c0
 constructor<;>intro c1
 constructor<;>intro c2
 constructor<;>intro c3
 constructor<;>intro c4
 ·rw[(ay c0 (bJ c1 c2 c3)).1,(ay c0 (bJ c1 c2 c3)).2,eqz c4];rfl
 constructor<;>intro c5
 ·rw[(ay c0 (bJ c1 c2 c3)).1,(ay c0 (bJ c1 c2 c3)).2,eqz c5];rfl
 constructor<;>intro c6
 ·rw[(ay c0 (bJ c1 c2 c3)).1,(ay c0 (bJ c1 c2 c3)).2,eqz c6];rfl
 constructor<;>intro c7
 ·rw[(ay c0 (bJ c1 c2 c3)).1,(ay c0 (bJ c1 c2 c3)).2,eqz c7];rfl
 constructor<;>intro c8
 ·rw[(ay c0 (bJ c1 c2 c3)).1,(ay c0 (bJ c1 c2 c3)).2,eqz c8];rfl
 constructor<;>intro c9
 ·rw[(ay c0 (bJ c1 c2 c3)).1,(ay c0 (bJ c1 c2 c3)).2,eqz c9];rfl
 constructor<;>intro c10
 ·rw[(ay c0 (bJ c1 c2 c3)).1,(ay c0 (bJ c1 c2 c3)).2,eqz c10];rfl
 constructor<;>intro c11
 ·rw[(ay c0 (bJ c1 c2 c3)).1,(ay c0 (bJ c1 c2 c3)).2,eqz c11];rfl
 ·exact qx c0 rfl c4 c5 c6 c7 c8 c9 c10 c11
 refine cu ?_
 ·rw[(dz c0 (pO c3)).1,(dz c0 (pO c3)).2];rfl
 refine cu ?_
 ·rw[(dz c0 (mP c2)).1,(dz c0 (mP c2)).2];rfl
 refine cu ?_
 ·rw[(dz c0 (mQ c1)).1,(dz c0 (mQ c1)).2];rfl
 ·rw[(mf c0).1,(mf c0).2];rfl
def bm:=And.intro Prog.eta (Ins.eta)
theorem ct {p q q2:Prop} (k:q2) (h:p->q=q2:=by intro e;(try simp only[e,bj,bm,ai,ap,-eq_self]);rfl):p->q:=fun e=>(h e).symm▸k
def ub:List (Nat×TI):=[(2,tiq2),
 (3,tiq3),
 (4,tiq4),
 (22,rI),
 (24,rH),
 (37,dS),
 (39,lO),
 (42,dR),
 (44,ew),
 (46,fR),
 (48,cK),
 (50,jT)]
theorem ge:∀t i,(t,i)∈ub->TIok Tryz.prog t i:=aV (fac (z:=iX) ⟨gQ,eD⟩<|fac (z:=z_Sc) ⟨kG,fN⟩<|fac (z:=z_Ty) ⟨kF,fM⟩ fa0) fa0 (by kernel_rfl)
def c_jnot:Cd:=⟨104,[.one (.int .i8)],[.one (.int .i8),.one .bool],rdZ fun cc _=>[.z (dr cc),.z (b2i (dh cc))],T0⟩
def acC:Tr:=
(.br (.eq (.var 0) (.lit 0))
(.leaf (.cons (.lit 1) (.consb (.tt true) .nil)))
(.br (.eq (.var 0) (.lit 1))
(.leaf (.cons (.lit 0) (.consb (.tt true) .nil)))
(.br (.eq (.var 0) (.lit 2))
(.leaf (.cons (.lit 5) (.consb (.tt true) .nil)))
(.br (.eq (.var 0) (.lit 3))
(.leaf (.cons (.lit 4) (.consb (.tt true) .nil)))
(.br (.eq (.var 0) (.lit 4))
(.leaf (.cons (.lit 3) (.consb (.tt true) .nil)))
(.br (.eq (.var 0) (.lit 5))
(.leaf (.cons (.lit 2) (.consb (.tt true) .nil)))
(.br (.eq (.var 0) (.lit 6))
(.leaf (.cons (.lit 9) (.consb (.tt true) .nil)))
(.br (.eq (.var 0) (.lit 7))
(.leaf (.cons (.lit 8) (.consb (.tt true) .nil)))
(.br (.eq (.var 0) (.lit 8))
(.leaf (.cons (.lit 7) (.consb (.tt true) .nil)))
(.br (.eq (.var 0) (.lit 9))
(.leaf (.cons (.lit 6) (.consb (.tt true) .nil)))
(.leaf (.cons (.lit 0) (.consb (.tt false) .nil)))))))))))))
theorem anP:c_jnot.Ok Tryz.prog:=
 oks acC [.int .i8] ge ol0 Tryz.func104<|fun cc hcc hp U g=>by
 simp only[gS1,Nat.reduceAdd] at g
 simp only[acC,spQ,rdZ,rdB,rdL,c_jnot,simQ,ab,S1,Nat.reduceSub,Nat.reduceAdd,-eq_self,bj,bm,ai,ap,g]
 constructor<;>intro c0
 ·(unfold dr dh;simp_all<;>omega)
 constructor<;>intro c1
 ·(unfold dr dh;simp_all<;>omega)
 constructor<;>intro c2
 ·(unfold dr dh;simp_all<;>omega)
 constructor<;>intro c3
 ·(unfold dr dh;simp_all<;>omega)
 constructor<;>intro c4
 ·(unfold dr dh;simp_all<;>omega)
 constructor<;>intro c5
 ·(unfold dr dh;simp_all<;>omega)
 constructor<;>intro c6
 ·(unfold dr dh;simp_all<;>omega)
 constructor<;>intro c7
 ·(unfold dr dh;simp_all<;>omega)
 constructor<;>intro c8
 ·(unfold dr dh;simp_all<;>omega)
 constructor<;>intro c9
 ·(unfold dr dh;simp_all<;>omega)
 ·(unfold dr dh;simp_all<;>omega)
def c_jptr:Cd:=⟨56,[.agg kTy],[.one .bool],rd_Ty fun t _=>[.z (b2i (tptr t))],T0⟩
def acB:Tr:=
(.br (.eq (.var 0) (.lit 2))
 zlT
(.leaf (.consb (.eq (.var 0) (.lit 3)) .nil)))
theorem ain:c_jptr.Ok Tryz.prog:=
 oks acB (v_Ty []) ge ol0 Tryz.func56<|bE fun t ht hp U g=>by
 simp only[q_Ty,gS1,Nat.reduceAdd] at g
 simp only[acB,spQ,rdZ,rdB,rdL,c_jptr,q_Ty,simQ,ab,S1,Nat.reduceSub,Nat.reduceAdd,-eq_self,bj,bm,ai,ap,g]
 constructor<;>intro c0
 ·(unfold tptr;simp_all)
 ·(unfold tptr;simp_all)
def sB:List Dt->Prop
 | [.z x0,.l x1,.z x2,.z x3,.z x4,.z x5,.z x6,.z x7,.z x8,.z x9,.z x10,.z x11,.z x12]=>let f (p:Prog) (t:Ty) (off:Int) (size:Int):Prop:=p.l.length<=maxLen;f ⟨x0,x1⟩ ⟨x2,x3,x4,x5,x6,x7,x8,x9,x10⟩ x11 x12
 | _=>False
def c_jwi:Cd:=⟨19,[.agg kProg,.agg kTy,.one (.int .i64),.one (.int .i64)],[.one .bool],rd_Prog fun p=>rd_Ty fun t=>rdZ fun off=>rdZ fun size _=>[.z (b2i (ax p.ctx t off size))],sB⟩
def zI:Tr:=(.br (.lt (.var 11) (.lit (-1048576)))
(.next 0 (.consb (.tt true) .nil))
(.br (.lt (.lit 1048576) (.var 11))
(.next 0 (.consb (.tt true) .nil))
(.br (.lt (.var 9) (.lit (-1048576)))
(.next 0 (.consb (.tt true) .nil))
(.br (.lt (.lit 1048576) (.var 10))
(.next 0 (.consb (.tt true) .nil))
(.next 0 (.consb (.lt (.var 10) (.var 9)) .nil))))))
def acx:Tr:=
(.cut 0 13 [.bool]
(.call 0 [.bool] (.vs 2 9 .nil) 13
(.br (.bw 13)
(.br (.eq (.var 12) (.lit 1))
 zI
(.br (.eq (.var 12) (.lit 2))
 zI
(.br (.eq (.var 12) (.lit 4))
 zI
(.br (.eq (.var 12) (.lit 8))
 zI
(.next 0 (.consb (.tt true) .nil))))))
(.next 0 (.consb (.tt true) .nil))))
(.br (.bw 13)
 zlF
(.cut 1 14 [.int .i64]
(.br (.eq (.var 2) (.lit 2))
(.next 1 (.cons (.var 0) .nil))
(.next 1 (.cons (.lit 64) .nil)))
(.br (.lt (.bin .add .i64 (.var 9) (.var 11)) (.lit 0))
 zlF
(.leaf (.consb (.not (.lt (.var 14) (.bin .add .i64 (.bin .add .i64 (.var 10) (.var 11)) (.var 12)))) .nil))))))
theorem amK:bp ub (smN 0 [c_jptr]) [] [(999997,[])] [(2,[.tmpB 53]++tps [(10,43)]),(6,[.tmpI 9 .i64,.top 54,.top 55,.top 56,.top 57,.top 58])] 200 Tryz.f19 c_jwi.a c_jwi.r (tp c_jwi.r) (v_Prog (v_Ty [.int .i64,.int .i64])) acx:=trI (by kernel_rfl)
theorem anN:c_jwi.Ok Tryz.prog:=
 okc (hl:=.inr (.inl ⟨(fun xs (h:sB xs) L hL=>by unfold sB at h;split at h<;>first | exact h.elim | (simp at hL;subst hL;exact h)),rfl⟩)) acx (v_Prog (v_Ty [.int .i64,.int .i64])) ge (olc ain ol0) Tryz.func19 fn0 amK<|eW fun p hp=>bE fun t ht=>fun off hoff size hsize hp U g=>by
 simp only[c_jwi,sB,cC,q_Ty,b2i_one,bj,bm,ai,ap] at hp
 have keepg:=g
 simp only[cC,q_Ty,gS1,Nat.reduceAdd] at g
 simp only[acx,zI,spQ,c_jptr,rdZ,rdB,rdL,c_jwi,cC,q_Ty,simQ,ab,S1,Nat.reduceSub,Nat.reduceAdd,-eq_self,bj,bm,ai,ap,g]
 refine⟨fun ds=>ds=[.z (b2i (!wg t off size))],?_,?_⟩
 refine ct ?_
 constructor<;>intro c0
 constructor<;>intro c1
 constructor<;>intro c2
 ·(refine zb ?_;rw[ao];simp_all [wg,far2,aN]<;>omega)
 constructor<;>intro c3
 ·(refine zb ?_;rw[ao];simp_all [wg,far2,aN]<;>omega)
 constructor<;>intro c4
 ·(refine zb ?_;rw[ao];simp_all [wg,far2,aN]<;>omega)
 constructor<;>intro c5
 ·(refine zb ?_;rw[ao];simp_all [wg,far2,aN]<;>omega)
 ·(refine zb ?_;rw[ao];simp_all [wg,far2,aN]<;>omega)
 constructor<;>intro c6
 constructor<;>intro c7
 ·(refine zb ?_;rw[ao];simp_all [wg,far2,aN]<;>omega)
 constructor<;>intro c8
 ·(refine zb ?_;rw[ao];simp_all [wg,far2,aN]<;>omega)
 constructor<;>intro c9
 ·(refine zb ?_;rw[ao];simp_all [wg,far2,aN]<;>omega)
 constructor<;>intro c10
 ·(refine zb ?_;rw[ao];simp_all [wg,far2,aN]<;>omega)
 ·(refine zb ?_;rw[ao];simp_all [wg,far2,aN]<;>omega)
 constructor<;>intro c11
 constructor<;>intro c12
 ·(refine zb ?_;rw[ao];simp_all [wg,far2,aN]<;>omega)
 constructor<;>intro c13
 ·(refine zb ?_;rw[ao];simp_all [wg,far2,aN]<;>omega)
 constructor<;>intro c14
 ·(refine zb ?_;rw[ao];simp_all [wg,far2,aN]<;>omega)
 constructor<;>intro c15
 ·(refine zb ?_;rw[ao];simp_all [wg,far2,aN]<;>omega)
 ·(refine zb ?_;rw[ao];simp_all [wg,far2,aN]<;>omega)
 constructor<;>intro c16
 constructor<;>intro c17
 ·(refine zb ?_;rw[ao];simp_all [wg,far2,aN]<;>omega)
 constructor<;>intro c18
 ·(refine zb ?_;rw[ao];simp_all [wg,far2,aN]<;>omega)
 constructor<;>intro c19
 ·(refine zb ?_;rw[ao];simp_all [wg,far2,aN]<;>omega)
 constructor<;>intro c20
 ·(refine zb ?_;rw[ao];simp_all [wg,far2,aN]<;>omega)
 ·(refine zb ?_;rw[ao];simp_all [wg,far2,aN]<;>omega)
 ·(refine zb ?_;rw[ao];simp_all [wg,far2,aN]<;>omega)
 ·(refine zb ?_;rw[ao];simp_all [wg,far2,aN]<;>omega)
 intro U1 ha1 _ hi1
 have keepg1:=(dF ha1 _ 0 (by decide)).trans keepg
 have g1:=keepg1
 simp only[cC,q_Ty,gS1,Nat.reduceAdd] at g1 hi1
 simp only[g1,hi1,bj,bm,-eq_self]
 constructor<;>intro c21
 ·rw[aoP c21];try rfl
 refine⟨fun ds=>ds=[.z (if t.k=2 then p.ctx else 64)],?_,?_⟩
 constructor<;>intro c22
 ·rw[if_pos (eqI c22)];try rfl
 ·rw[if_neg (neI c22)];try rfl
 intro U2 ha2 _ hi2
 have keepg2:=(dF ha2 _ 0 (by decide)).trans keepg1
 have g2:=keepg2
 simp only[cC,q_Ty,gS1,Nat.reduceAdd] at g2 hi2
 simp only[g2,hi2,bj,bm,-eq_self]
 constructor<;>intro c23
 ·rw[ahh c21,c23];try rfl
 ·rw[ahh c21,c23];try rfl
def uE:List Dt->Prop
 | [.z x0,.z x1,.z x2,.z x3,.z x4,.z x5,.z x6,.z x7,.z x8,.z x9,.z x10,.z x11,.z x12,.z x13,.z x14,.z x15]=>let f (t:Ty) (s:Sc) (back:Bool):Prop:=t.lo<=t.hi /\ -1048576<=t.lo/\t.hi<=1048576/\s.sl<=s.sh;f ⟨x0,x1,x2,x3,x4,x5,x6,x7,x8⟩ ⟨x9,x10,x11,x12,x13,x14⟩ (x15==1)
 | _=>False
def c_jmov:Cd:=⟨98,[.agg kTy,.agg kSc,.one .bool],[.agg kTy],rd_Ty fun t=>rd_Sc fun s=>rdB fun back _=>d_Ty (fi t s back) [],uE⟩
def acD:Tr:=
(.br (.lt (.var 11) (.lit (-1048576)))
(.call 0 (kTy) .nil 16
(.leaf (.vs 16 9 .nil)))
(.br (.lt (.lit 1048576) (.var 12))
(.call 0 (kTy) .nil 16
(.leaf (.vs 16 9 .nil)))
(.br (.bw 15)
(.br (.lt (.bin .sub .i64 (.var 7) (.var 12)) (.lit (-1048576)))
(.call 0 (kTy) .nil 16
(.leaf (.vs 16 9 .nil)))
(.br (.lt (.lit 1048576) (.bin .sub .i64 (.var 8) (.var 11)))
(.call 0 (kTy) .nil 16
(.leaf (.vs 16 9 .nil)))
(.leaf (.vs 0 7 (.cons (.bin .sub .i64 (.var 7) (.var 12)) (.cons (.bin .sub .i64 (.var 8) (.var 11)) .nil))))))
(.br (.lt (.bin .add .i64 (.var 7) (.var 11)) (.lit (-1048576)))
(.call 0 (kTy) .nil 16
(.leaf (.vs 16 9 .nil)))
(.br (.lt (.lit 1048576) (.bin .add .i64 (.var 8) (.var 12)))
(.call 0 (kTy) .nil 16
(.leaf (.vs 16 9 .nil)))
(.leaf (.vs 0 7 (.cons (.bin .add .i64 (.var 7) (.var 11)) (.cons (.bin .add .i64 (.var 8) (.var 12)) .nil)))))))))
theorem anQ:c_jmov.Ok Tryz.prog:=
 oks acD (v_Ty (v_Sc [.bool])) ge (olc qK ol0) Tryz.func98<|bE fun t ht=>cM fun s hs=>fun back hp U g=>by
 simp only[c_jmov,uE,q_Ty,q_Sc,b2i_one,bj,bm,ai,ap] at hp
 simp only[q_Ty,q_Sc,gS1,Nat.reduceAdd] at g
 simp only[acD,spQ,c_yscal,rdZ,rdB,rdL,c_jmov,q_Ty,q_Sc,simQ,ab,S1,Nat.reduceSub,Nat.reduceAdd,-eq_self,bj,bm,ai,ap,g]
 constructor<;>intro c0
 refine ct ?_
 ·rw[cf (.inl (thm3 c0))];try rfl
 constructor<;>intro c1
 refine ct ?_
 ·rw[cf (.inr (.inl (thm3 c1)))];try rfl
 constructor<;>intro c2
 constructor<;>intro c3
 refine ct ?_
 ·rw[c2,jm_1 (thm3 c3)];try rfl
 constructor<;>intro c4
 refine ct ?_
 ·rw[c2,jm_2 (thm3 c4)];try rfl
 ·rw[c2,jm_3 hp (thm2 c0) (thm2 c1) (thm2 c3) (thm2 c4)];try rfl
 constructor<;>intro c5
 refine ct ?_
 ·rw[c2,jm_4 (thm3 c5)];try rfl
 constructor<;>intro c6
 refine ct ?_
 ·rw[c2,jm_5 (thm3 c6)];try rfl
 ·rw[c2,jm_6 hp (thm2 c0) (thm2 c1) (thm2 c5) (thm2 c6)];try rfl
def c_jsca:Cd:=⟨44,[.agg kSc],[.agg kTy],rd_Sc fun s _=>d_Ty (ty 1 s 0 0) [],T0⟩
def acz:Tr:=
(.leaf (.cons (.lit 1) (.vs 0 6 (.cons (.lit 0) (.cons (.lit 0) .nil)))))
theorem adZ:c_jsca.Ok Tryz.prog:=
 oks acz (v_Sc []) ge ol0 Tryz.func44<|cM fun s hs hp U g=>by
 simp only[q_Sc,q_Ty,gS1,Nat.reduceAdd] at g
 simp only[acz,spQ,rdZ,rdB,rdL,c_jsca,q_Sc,q_Ty,simQ,ab,S1,Nat.reduceSub,Nat.reduceAdd,-eq_self,bj,bm,ai,ap,g]
 ·rfl
def acP:List Dt->Prop
 | [.z x0,.z x1,.z x2,.z x3,.z x4,.z x5,.z x6,.z x7,.z x8,.z x9,.z x10,.z x11,.z x12,.z x13,.z x14,.z x15,.z x16,.z x17,.z x18,.z x19,.z x20,.z x21,.z x22,.z x23,.z x24,.z x25,.z x26]=>let f (x:Ins) (a:Ty) (b:Ty):Prop:=(x.w=32\/x.w=64)/\tok a=true/\tok b=true;f ⟨x0,x1,x2,x3,(x4==1),x5,x6,x7,x8⟩ ⟨x9,x10,x11,x12,x13,x14,x15,x16,x17⟩ ⟨x18,x19,x20,x21,x22,x23,x24,x25,x26⟩
 | _=>False
def c_jalu:Cd:=⟨47,[.agg kIns,.agg kTy,.agg kTy],[.agg kTy],rd_Ins fun x=>rd_Ty fun a=>rd_Ty fun b _=>d_Ty (jalu x a b) [],acP⟩
def aiU:Tr:=(.call 6 (kTy) (.vs 48 6 .nil) 54
(.leaf (.vs 54 9 .nil)))
def aiV:Tr:=(.call 2 (kTy) (.vs 28 9 (.vs 38 6 (.consb (.eq (.var 1) (.lit 1)) .nil))) 48
(.leaf (.vs 48 9 .nil)))
def uB:Tr:=
(.cut 0 27 [.bool]
(.br (.eq (.var 1) (.lit 11))
(.next 0 (.consb (.eq (.var 2) (.lit 64)) .nil))
(.next 0 (.consb (.tt false) .nil)))
(.br (.bw 27)
(.leaf (.vs 18 9 .nil))
(.cut 1 28 [.int .i8,.int .u64,.int .u64,.int .i64,.int .i64,.int .u64,.int .u64,.int .i64,.int .i64,.int .i8,.int .u64,.int .u64,.int .i64,.int .i64,.int .u64,.int .u64,.int .i64,.int .i64]
(.br (.eq (.var 1) (.lit 11))
(.next 1 (.vs 18 9 (.vs 18 9 .nil)))
(.br (.eq (.var 1) (.lit 8))
(.call 0 (kSc) (.cons (.lit 0) .nil) 28
(.call 6 (kTy) (.vs 28 6 .nil) 34
(.next 1 (.vs 18 9 (.vs 34 9 .nil)))))
(.next 1 (.vs 9 18 .nil))))
(.call 5 [.bool] (.vs 28 9 .nil) 46
(.br (.bw 46)
(.br (.eq (.var 2) (.lit 64))
(.call 5 [.bool] (.vs 37 9 .nil) 47
(.br (.bw 47)
(.call 4 (kTy) .nil 48
(.leaf (.vs 48 9 .nil)))
(.br (.eq (.var 1) (.lit 0))
 aiV
(.br (.eq (.var 1) (.lit 1))
 aiV
(.call 4 (kTy) .nil 48
(.leaf (.vs 48 9 .nil)))))))
(.br (.eq (.var 2) (.lit 32))
(.call 3 (kSc) .nil 47
(.call 6 (kTy) (.vs 47 6 .nil) 53
(.leaf (.vs 53 9 .nil))))
(.call 4 (kTy) .nil 47
(.leaf (.vs 47 9 .nil)))))
(.call 5 [.bool] (.vs 37 9 .nil) 47
(.br (.bw 47)
(.br (.eq (.var 2) (.lit 64))
(.br (.eq (.var 1) (.lit 0))
(.call 2 (kTy) (.vs 37 9 (.vs 29 6 (.consb (.tt false) .nil))) 48
(.leaf (.vs 48 9 .nil)))
(.call 4 (kTy) .nil 48
(.leaf (.vs 48 9 .nil))))
(.br (.eq (.var 2) (.lit 32))
(.call 3 (kSc) .nil 48
 aiU)
(.call 4 (kTy) .nil 48
(.leaf (.vs 48 9 .nil)))))
(.call 1 (kSc) (.vs 1 2 (.vs 29 6 (.vs 38 6 .nil))) 48
 aiU))))))))
theorem akN:bp ub (smN 0 [c_wone,c_wdo,c_jmov,c_wby4,c_yscal,c_jptr,c_jsca]) [] [(999997,[])] [(2,[.tmpB 14]++tps [(7,7)]),(7,[.cels 1 0 (kN 9 221122110),.cels 2 0 (kN 9 221122110)]++tps [(16,14)])] 200 Tryz.f47 c_jalu.a c_jalu.r (tp c_jalu.r) (v_Ins (v_Ty (v_Ty []))) uB:=trI (by kernel_rfl)
theorem anR:c_jalu.Ok Tryz.prog:=
 okc uB (v_Ins (v_Ty (v_Ty []))) ge (olc ah9<|olc apd<|olc anQ<|olc aia<|olc qK<|olc ain<|olc adZ ol0) Tryz.func47 fn0 akN<|eG fun x hx=>bE fun a ha=>bE fun b hb hp U g=>by
 simp only[c_jalu,acP,dd,q_Ty,b2i_one,bj,bm,ai,ap] at hp
 have keepg:=g
 simp only[dd,q_Ty,q_Sc,gS1,Nat.reduceAdd] at g
 simp only[uB,aiV,aiU,spQ,c_wone,c_wdo,c_jmov,c_wby4,c_yscal,c_jptr,c_jsca,rdZ,rdB,rdL,c_jalu,uE,dd,q_Ty,q_Sc,simQ,ab,S1,Nat.reduceSub,Nat.reduceAdd,-eq_self,bj,bm,ai,ap,g]
 refine⟨fun ds=>ds=[.z (b2i (x.op==11&&x.w==64))],?_,?_⟩
 constructor<;>intro c0
 ·(simp_all)
 ·(simp_all)
 intro U1 ha1 _ hi1
 have keepg1:=(dF ha1 _ 0 (by decide)).trans keepg
 have g1:=keepg1
 simp only[dd,q_Ty,q_Sc,gS1,Nat.reduceAdd] at g1 hi1
 simp only[g1,hi1,bj,bm,-eq_self]
 constructor<;>intro c1
 ·rw[ja_m c1];try rfl
 refine⟨fun ds=>∃a1 b1:Ty,ds=d_Ty a1 (d_Ty b1 [])/\jalu x a b=eX x.op x.w a1 b1/\tok a1=true/\tok b1=true,?_,?_⟩
 constructor<;>intro c2
 ·exact⟨b,b,rfl,ja_o c1 c2,hp.2.2,hp.2.2⟩
 constructor<;>intro c3
 refine ct ?_
 refine ct ?_
 ·exact⟨b,tsc (vone 0),rfl,ja_n c2 c3,hp.2.2,by decide +kernel⟩
 ·exact⟨a,b,rfl,ja_e c2 c3,hp.2⟩
 intro U2 ha2 _ hi2
 obtain⟨a1,b1,hi2,hj,ta,tb⟩:=hi2
 have keepg2:=(dF ha2 _ 0 (by decide)).trans keepg1
 have g2:=keepg2
 simp only[dd,q_Ty,q_Sc,gS1,Nat.reduceAdd] at g2 hi2
 simp only[g2,hi2,bj,bm,-eq_self]
 refine ct ?_
 constructor<;>intro c4
 constructor<;>intro c5
 refine ct ?_
 constructor<;>intro c6
 refine ct ?_
 ·rw[hj,of_5 c4 c6 c5];try rfl
 constructor<;>intro c7
 refine⟨?_,?_⟩
 ·exact adq ta c4 tb c6
 refine ct ?_
 ·rw[hj,of_3 c4 c6 c5 (.inl (eqI c7))];try rfl
 constructor<;>intro c8
 refine⟨?_,?_⟩
 ·exact adq ta c4 tb c6
 refine ct ?_
 ·rw[hj,of_3 c4 c6 c5 (.inr (eqI c8))];try rfl
 refine ct ?_
 ·rw[hj,of_6 c4 c5 c7 c8];try rfl
 constructor<;>intro c9
 refine ct ?_
 refine ct ?_
 ·rw[hj,of_9 (.inl c4) c9];try rfl
 refine ct ?_
 ·(have:=neI c5;have:=neI c9;have:=hp.1;omega)
 refine ct ?_
 constructor<;>intro c10
 constructor<;>intro c11
 constructor<;>intro c12
 refine⟨?_,?_⟩
 ·exact adq tb c10 ta c4
 refine ct ?_
 ·rw[hj,of_4 c4 c10 c11 c12];try rfl
 refine ct ?_
 ·rw[hj,of_7 c10 c11 c12];try rfl
 constructor<;>intro c13
 refine ct ?_
 refine ct ?_
 ·rw[hj,of_9 (.inr c10) c13];try rfl
 refine ct ?_
 ·(have:=neI c11;have:=neI c13;have:=hp.1;omega)
 refine ct ?_
 refine ct ?_
 ·rw[hj,of_1 c4 c10];try rfl
open Go
def tyV (U:Env) (n:Nat):Ty:=⟨U.i n,U.i (n+1),U.i (n+2),U.i (n+3),U.i (n+4),U.i (n+5),U.i (n+6),U.i (n+7),U.i (n+8)⟩
def staV (U:Env) (n:Nat):Sta:=⟨tyV U n,tyV U (n+9),tyV U (n+18),tyV U (n+27),tyV U (n+36),tyV U (n+45),tyV U (n+54),tyV U (n+63),tyV U (n+72),tyV U (n+81),tyV U (n+90),tyV U (n+99),tyV U (n+108),tyV U (n+117),tyV U (n+126),tyV U (n+135),tyV U (n+144),tyV U (n+153),tyV U (n+162)⟩
section
variable (U:Env)
theorem rn (n:Nat) (t:E):(E.vs n 171 t).D U=d_Sta (staV U n) (t.D U):=by kernel_rfl
theorem rm (n:Nat):(E.vs n 171 .nil).L U=staL (staV U n):=by kernel_rfl
theorem ae0 (n:Nat) (t:E):(E.vs n 9 t).D U=d_Ty (tyV U n) (t.D U):=by kernel_rfl
theorem lR (e:E) (n:Nat) (t:E):(E.tn e n 9 t).D U=d_Ty (tnth (staV U n) (e.I U)) (t.D U):=by kernel_rfl
theorem aha (e t:E) (m n:Nat):(E.rg e (E.vs m 9 .nil) (E.vs n 99 .nil) (E.vs (n+99) 72 t)).D U=d_Sta (sreg (staV U n) (e.I U) (tyV U m)) (t.D U):=by kernel_rfl
theorem zG (e:E) (m n:Nat):(E.rg e (E.vs m 9 .nil) (E.vs n 99 .nil) (E.vs (n+99) 72 .nil)).L U=staL (sreg (staV U n) (e.I U) (tyV U m)):=by kernel_rfl
theorem pJ (n:Nat) (r:List VK):varsD U n (v_Sta r)=d_Sta (staV U n) (varsD U (n+171) r):=by kernel_rfl
end
def tyOf (f:Nat->Int) (n:Nat):Ty:=⟨f n,f (n+1),f (n+2),f (n+3),f (n+4),f (n+5),f (n+6),f (n+7),f (n+8)⟩
def aa8 (f:Nat->Int):Sta:=⟨tyOf f 0,tyOf f 9,tyOf f 18,tyOf f 27,tyOf f 36,tyOf f 45,tyOf f 54,tyOf f 63,tyOf f 72,tyOf f 81,tyOf f 90,tyOf f 99,tyOf f 108,tyOf f 117,tyOf f 126,tyOf f 135,tyOf f 144,tyOf f 153,tyOf f 162⟩
def tO (m:Nat) (f:Nat->Int):Nat->Int:=fun i=>bif Nat.blt i m then f i else 0
theorem ym {m:Nat} {f g:Nat->Int} (h:∀i,i<m->f i=g i):tO m f=tO m g:=by
 funext i
 unfold tO
 cases hb:Nat.blt i m with
 | false=>rfl
 | true=>exact h i (by simpa[Nat.blt_eq] using hb)
theorem mN (f:Nat->Int):aa8 (tO 171 f)=aa8 f:=by kernel_rfl
theorem oC (f:Nat->Int):tyOf (tO 9 f) 0=tyOf f 0:=by kernel_rfl
theorem vS {f g:Nat->Int} (h:∀m,m<171->f m=g m):aa8 f=aa8 g:=by
 rw[<-mN f,<-mN g,ym h]
theorem aaQ {f g:Nat->Int} (h:∀m,m<9->f m=g m):tyOf f 0=tyOf g 0:=by
 rw[<-oC f,<-oC g,ym h]
theorem uo (S:Sta) (r:List Dt):aa8 (fun m=>dI (d_Sta S r) m)=S:=by kernel_rfl
theorem aaR (S:Ty) (r:List Dt):tyOf (fun m=>dI (d_Ty S r) m) 0=S:=by kernel_rfl
theorem iF {a b:Sta} {r r':List Dt} (h:d_Sta a r=d_Sta b r'):a=b:=by
 rw[<-uo a r,<-uo b r',h]
theorem qW {a b:Ty} {r r':List Dt} (h:d_Ty a r=d_Ty b r'):a=b:=by
 rw[<-aaR a r,<-aaR b r',h]
def kint:List CK->Nat->Bool
 | .int _::_,0=>true
 | .int _::ks,m+1=>kint ks m
 | _,_=>false
theorem nW {U:Env} {ds:List Dt} {v0:Nat}:∀(ks:List CK) (n m:Nat),kint ks m=true->eqs U ds v0 n ks->U.i (v0+(n+m))=dI ds (n+m)
 | .int k::ks,n,0,_,h=>h.1
 | .int k::ks,n,m+1,hk,h=>by
   have:=nW ks (n+1) m hk h.2
   rw[show n+(m+1)=n+1+m by omega]
   exact this
theorem qJ:∀(a b:List CK) (m:Nat),kint a m=true->kint (a++b) m=true
 | .int _::_,_,0,_=>rfl
 | .int _::a,b,m+1,h=>qJ a b m h
theorem anc:∀m,m<171->kint kSta m=true:=by decide +kernel
theorem anb:∀m,m<9->kint kTy m=true:=by decide +kernel
theorem an8 {U:Env} {S:Sta} {r:List Dt} {v0:Nat} {ks:List CK} (h:eqs U (d_Sta S r) v0 0 (kSta++ks)):staV U v0=S:=by
 have e:=vS (f:=fun m=>U.i (v0+m)) (g:=fun m=>dI (d_Sta S r) m) (fun m hm=>by
  have:=nW _ 0 m (qJ _ ks m (anc m hm)) h
  rw[bG] at this
  exact this)
 rw[uo] at e
 exact e
theorem al2 {U:Env} {S:Ty} {r:List Dt} {v0:Nat} {ks:List CK} (h:eqs U (d_Ty S r) v0 0 (kTy++ks)):tyV U v0=S:=by
 have e:=aaQ (f:=fun m=>U.i (v0+m)) (g:=fun m=>dI (d_Ty S r) m) (fun m hm=>by
  have:=nW _ 0 m (qJ _ ks m (anb m hm)) h
  rw[bG] at this
  exact this)
 rw[aaR] at e
 exact e
theorem aiF {U:Env} {S:Sta} {e:Int} {v0:Nat} (h:eqs U (d_Sta S [.z e]) v0 0 (kSta++[.int .i64])):U.i (v0+171)=e:=by
 have:=nW _ 0 171 (by decide +kernel) h
 exact this
theorem aiE {U:Env} {S:Ty} {e:Int} {v0:Nat} (h:eqs U (d_Ty S [.z e]) v0 0 (kTy++[.int .i64])):U.i (v0+9)=e:=by
 have:=nW _ 0 9 (by decide +kernel) h
 exact this
theorem jp {U:Env} {S:Ty} {r:List Dt} {v0:Nat} (h:eqs U (d_Ty S r) v0 0 kTy):tyV U v0=S:=al2 (ks:=[]) (by rw[List.append_nil];exact h)
theorem vL {U U':Env} {n m:Nat} (h:Ag n U U') (hm:m+9<=n):tyV U' m=tyV U m:=by
 have e:=aaQ (f:=fun i=>U'.i (m+i)) (g:=fun i=>U.i (m+i)) (fun i hi=>((h (m+i) (by omega)).1).symm)
 exact e
theorem um {U U':Env} {n m:Nat} (h:Ag n U U') (hm:m+171<=n):staV U' m=staV U m:=by
 have e:=vS (f:=fun i=>U'.i (m+i)) (g:=fun i=>U.i (m+i)) (fun i hi=>((h (m+i) (by omega)).1).symm)
 exact e
section
variable {sp:Spec} {G:Env->E->Prop} {U:Env} {I:Nat->List Dt->Prop}
theorem am {key v0:Nat} {ks:List CK} {args:E} {t:Tr} (xs:List Dt) (hD:args.D U=xs) (hp:sp.pre key xs) (h:eqs U (sp.F key xs) v0 0 ks->t.asks sp G U I):(Tr.call key ks args v0 t).asks sp G U I:=by
 subst hD
 exact⟨hp,h⟩
theorem aI {lv:Nat} {P:List Dt->Prop} {args:E} (h:P (args.D U)):(Tr.next lv args).asks sp G U (upd I lv P):=by
 show upd I lv P lv _
 rw[ab];exact h
end
theorem tQ (U:Env) (l i t:E):(E.ins l i t).D U=d_Ins (aa (l.R U) (i.I U)) (t.D U):=by kernel_rfl
def insR (x:Ins):List (List Int):=[[x.k,x.op,x.w,x.sz,b2i x.br,x.d,x.s,x.off,x.imm]]
theorem aml (U:Env) (l i:E):(E.lq .ln (.ins l i .nil)).R U=insR (aa (l.R U) (i.I U)):=by kernel_rfl
theorem ad7 (x:Ins):aa (insR x) 0=x:=by
 show(⟨x.k,x.op,x.w,x.sz,b2i x.br==1,x.d,x.s,x.off,x.imm⟩:Ins)=x
 rw[b2i_one]
section
variable {sp:Spec} {G:Env->E->Prop} {U:Env} {I:Nat->List Dt->Prop} {p:Prog} {r:VR} {n w T g:E} {S:E->E} {s:Sta} {v:Nat} {k:E->E->E->Tr}
end
theorem aoE (x:Ins):c_vrd.F (d_Ins x [])=[.z (vrd x)]:=by
 show[Dt.z (vrd ⟨x.k,x.op,x.w,x.sz,b2i x.br==1,x.d,x.s,x.off,x.imm⟩)]=_
 rw[b2i_one]
theorem aoK (i:Int) (x:Ins):c_itgt.F (.z i::d_Ins x [])=[.z (itgt i x).1,.z (b2i (itgt i x).2)]:=by
 show[Dt.z (itgt i ⟨x.k,x.op,x.w,x.sz,b2i x.br==1,x.d,x.s,x.off,x.imm⟩).1,.z (b2i (itgt i ⟨x.k,x.op,x.w,x.sz,b2i x.br==1,x.d,x.s,x.off,x.imm⟩).2)]=_
 rw[b2i_one]
theorem aoH (x:Ins) (a b:Ty):c_valu.F (.l (insR x)::d_Ty a (d_Ty b []))=d_Ty (valu x a b) []:=by
 show d_Ty (valu (aa (insR x) 0) a b) []=_
 rw[ad7]
theorem aiN (c:Int) (l:List (List Int)) (x:Ins) (t:Ty):c_vacc.F (.z c::.l l::.l (insR x)::d_Ty t [])=[.z (alo t x),.z (ahi t x),.z (b2i (ax c t x.off x.sz))]:=by
 show[Dt.z (opI .add .i64 t.lo (aa (insR x) 0).off),.z (opI .add .i64 t.hi (aa (insR x) 0).off),.z (b2i (ax c t (aa (insR x) 0).off (aa (insR x) 0).sz))]=_
 rw[ad7];rfl
theorem amo (s:Sta) (lo hi z:Int):c_tload.F (d_Sta s [.z lo,.z hi,.z z])=d_Ty (mS s lo hi z) [.z (mT s lo hi z)]:=by
 simp only[c_tload];rw[bN];rfl
theorem ag9 (s:Sta) (lo hi z:Int) (t:Ty):c_tstore.F (d_Sta s (.z lo::.z hi::.z z::d_Ty t []))=d_Sta (hJ s lo hi z t) [.z (mO s lo hi z t)]:=by
 simp only[c_tstore];rw[bN];rfl
theorem apw {k:Nat} (h:k<64):opI .add .i64 (k:Int) 1=((k+1:Nat):Int):=by
 show IntKind.i64.wrap _=_
 rw[aL];omega
def scV (U:Env) (n:Nat):Sc:=⟨U.i n,U.i (n+1),U.i (n+2),U.i (n+3),U.i (n+4),U.i (n+5)⟩
theorem zH (U:Env) (n:Nat) (t:E):(E.vs n 6 t).D U=d_Sc (scV U n) (t.D U):=by kernel_rfl
theorem ap8 (U:Env) (e:E) (n:Nat) (t:E):(E.tn e (n+1) 6 t).D U=d_Sc (tnth (staV U n) (e.I U)).s (t.D U):=by kernel_rfl
theorem aoZ (U:Env) (n:Nat):scV U (n+1)=(tyV U n).s:=by kernel_rfl
theorem aen {U:Env} {s:Sc} {r:List Dt} {v0:Nat} {ks:List CK} (h:eqs U (d_Sc s r) v0 0 (kSc++ks)):scV U v0=s/\eqs U (d_Sc s r) v0 6 ks:=by
 obtain⟨h0,h1,h2,h3,h4,h5,h6⟩:=h
 refine⟨?_,h6⟩
 have e0:U.i v0=s.ul:=h0
 have e1:U.i (v0+1)=s.uh:=h1
 have e2:U.i (v0+2)=s.sl:=h2
 have e3:U.i (v0+3)=s.sh:=h3
 have e4:U.i (v0+4)=s.v:=h4
 have e5:U.i (v0+5)=s.m:=h5
 unfold scV
 rw[e0,e1,e2,e3,e4,e5]
theorem aoF (cc:Int) (a b:Sc):c_vgiv.F (.z cc::d_Sc a (d_Sc b []))=d_Sc (vgiv cc a b) [.z (b2i (vgok cc a b))]:=rfl
theorem tP (s:Sc):c_vsca.F (d_Sc s [])=d_Ty (tsc s) []:=rfl
theorem aoG (q:Int):c_vby.F [.z q]=d_Sc (vbyt q) []:=rfl
theorem aiM (q:Int):c_vone.F [.z q]=d_Sc (vone q) []:=rfl
section
variable {k:Int} {x:Ins} {s b':Sta} {b:Ty}
theorem pH (h:x.k=4\/x.k=6):gz k x s b=[]:=if_pos h
theorem pG (h4:x.k≠4) (h6:x.k≠6) (ht:(iY x s b&&dh x.op)=false):gz k x s b=[(opI .add .i64 k 1,s)]:=by
 unfold gz vway
 rw[if_neg (fun h=>h.elim h4 h6),ht];rfl
theorem aaj (h4:x.k≠4) (h6:x.k≠6) (ht:(iY x s b&&dh x.op)=true):gz k x s b=vway s x.d (tnth s x.d) b true (opI .add .i64 k 1) (dr x.op) true:=by
 unfold gz
 rw[if_neg (fun h=>h.elim h4 h6)]
 rw[thm0] at ht
 rw[ht.1,ht.2]
theorem pE (h:(itgt k x).2=false):jQ k x s b=[]:=if_neg (by rw[h];simp)
theorem vI (h:(itgt k x).2=true) (ht:iY x s b=false):jQ k x s b=[((itgt k x).1,s)]:=by
 unfold jQ vway
 rw[if_pos h,ht];rfl
theorem aai (h:(itgt k x).2=true) (ht:iY x s b=true):jQ k x s b=vway s x.d (tnth s x.d) b true (itgt k x).1 x.op true:=by
 unfold jQ
 rw[if_pos h,ht]
end
theorem aa2 {z:Int} (h:aN z=true):IntKind.i64.wrap z=z:=by
 unfold aN at h
 simp only[ey,aZ] at h
 rw[aL]
 omega
def lB (x:Ins):Bool:=!(x.k==4) &&!(x.k==6)
theorem aal {x:Ins} (h:lB x=true):x.k≠4/\x.k≠6:=by
 unfold lB at h
 simpa using h
theorem afi {x:Ins} (h:lB x=false):x.k=4\/x.k=6:=by
 unfold lB at h
 by_cases h4:x.k=4
 ·exact .inl h4
 ·exact .inr (by simpa[h4] using h)
def amv (kg ks:Nat) (cc X:E) (n m v:Nat) (k1 k0:Tr):Tr:=
 .call kg (kSc++[.bool]) (.cons cc (.tn X (n+1) 6 (.vs (m+1) 6 .nil))) v
  (.br (.bw (v+6)) (.call ks kTy (.vs v 6 .nil) (v+7) k1) k0)
theorem gg {sp:Spec} {G:Env->E->Prop} {U:Env} {I:Nat->List Dt->Prop} {kg ks:Nat} {cc X:E} {n m v:Nat} {k1 k0:Tr} {s1:Sta} {b:Ty} {c d z:Int}
  (hF:∀c a b,sp.F kg (.z c::d_Sc a (d_Sc b []))=d_Sc (vgiv c a b) [.z (b2i (vgok c a b))]) (hS:∀s,sp.F ks (d_Sc s [])=d_Ty (tsc s) []) (p1:∀xs,sp.pre kg xs) (p2:∀xs,sp.pre ks xs)
  (hX:X.I U=d) (hn:staV U n=s1) (hm:tyV U m=b) (hc:cc.I U=c)
  (h1:vway s1 d (tnth s1 d) b true z c true=[(z,sreg s1 d (tyV U (v+7)))]->k1.asks sp G U I) (h0:vway s1 d (tnth s1 d) b true z c true=[]->k0.asks sp G U I):(amv kg ks cc X n m v k1 k0).asks sp G U I:=by
 refine am (.z c::d_Sc (tnth s1 d).s (d_Sc b.s [])) (by
  show Dt.z (cc.I U)::(E.tn X (n+1) 6 (.vs (m+1) 6 .nil)).D U=_
  rw[ap8,zH,hn,hX,hc,aoZ,hm];rfl) (p1 _) (fun e=> ?_)
 rw[hF] at e
 obtain⟨e1,e2,_⟩:=aen e
 have e3:U.b (v+6)=vgok c (tnth s1 d).s b.s:=e2.trans (fQ _)
 refine⟨fun c0=> ?_,fun c0=> ?_⟩
 ·have hok:vgok c (tnth s1 d).s b.s=true:=e3.symm.trans c0
  refine am (d_Sc (vgiv c (tnth s1 d).s b.s) []) (by rw[zH,e1];rfl) (p2 _) (fun e=> ?_)
  rw[hS] at e
  refine h1 ?_
  unfold vway
  rw[jp e,if_pos (by rfl),if_pos hok]
 ·have hok:¬vgok c (tnth s1 d).s b.s=true:=by
   rw[<-e3];intro h9;rw[show(E.bw (v+6)).B U=U.b (v+6) from rfl,h9] at c0;cases c0
  refine h0 ?_
  unfold vway
  rw[if_pos (by rfl),if_neg hok]
def aaH:List (Nat×TI):=[(2,tiq2),
 (3,tiq3),
 (4,tiq4),
 (37,dS),
 (39,lO),
 (42,dR),
 (44,ew),
 (46,fR),
 (48,cK),
 (50,jT),
 (51,mK),
 (52,mJ),
 (54,uf),
 (55,afp),
 (66,afo)]
theorem aau:∀t i,(t,i)∈aaH->TIok Tryz.prog t i:=aV (fac (z:=iX) ⟨gQ,eD⟩<|fac (z:=z_Sc) ⟨kG,fN⟩<|fac (z:=z_Ty) ⟨kF,fM⟩ fa0) fa0 (by kernel_rfl)
def af1:List Dt->Prop
 | .z x0::.z x1::.z x2::.z x3::.z x4::.z x5::.z x6::.z x7::.z x8::rest=>(let f (x:Ins):Prop:=0<=x.d/\x.d<11;f ⟨x0,x1,x2,x3,(x4==1),x5,x6,x7,x8⟩)/\noL rest=true
 | _=>False
def c_jjump:Cd:=⟨51,[.agg kIns,.one (.int .i64),.one (.int .i64),.agg kSta,.agg kTy],[.one (.sl (kN 172 2211221102211221102211221102211221102211221102211221102211221102211221102211221102211221102211221102211221102211221102211221102211221102211221102211221102211221102211221102) 66)],rd_Ins fun x=>rdZ fun i=>rdZ fun n=>rd_Sta fun s=>rd_Ty fun b _=>[.l (qO x i n s b)],af1⟩
def qg:Tr:=
(.br (.lt (.var 5) (.lit 0))
.panic
(.br (.lt (.var 5) (.lit 11))
(.br (.eq (.nth (.var 5) (.sv 11 11)) (.lit 1))
(.br (.eq (.var 182) (.lit 1))
(.call 0 [.int .i8,.bool] (.cons (.var 1) .nil) 191
(.br (.bw 192)
(.call 1 (kSc++[.bool]) (.cons (.var 191) (.tn (.var 5) 12 6 (.vs 183 6 .nil))) 193
(.br (.bw 199)
(.call 2 (kTy) (.vs 193 6 .nil) 200
(.call 1 (kSc++[.bool]) (.cons (.var 1) (.tn (.var 5) 12 6 (.vs 183 6 .nil))) 209
(.br (.bw 215)
(.call 2 (kTy) (.vs 209 6 .nil) 216
(.leaf (.cL (.lq (.lq .ln (.cons (.bin .add .i64 (.var 9) (.lit 1)) (.rg (.var 5) (.vs 200 9 .nil) (.vs 11 99 .nil) (.vs 110 72 .nil)))) (.cons (.var 10) (.rg (.var 5) (.vs 216 9 .nil) (.vs 11 99 .nil) (.vs 110 72 .nil)))) .nil)))
(.leaf (.cL (.lq .ln (.cons (.bin .add .i64 (.var 9) (.lit 1)) (.rg (.var 5) (.vs 200 9 .nil) (.vs 11 99 .nil) (.vs 110 72 .nil)))) .nil)))))
(.call 1 (kSc++[.bool]) (.cons (.var 1) (.tn (.var 5) 12 6 (.vs 183 6 .nil))) 200
(.br (.bw 206)
(.call 2 (kTy) (.vs 200 6 .nil) 207
(.leaf (.cL (.lq .ln (.cons (.var 10) (.rg (.var 5) (.vs 207 9 .nil) (.vs 11 99 .nil) (.vs 110 72 .nil)))) .nil)))
(.leaf (.cL .ln .nil))))))
(.call 1 (kSc++[.bool]) (.cons (.var 1) (.tn (.var 5) 12 6 (.vs 183 6 .nil))) 193
(.br (.bw 199)
(.call 2 (kTy) (.vs 193 6 .nil) 200
(.leaf (.cL (.lq (.lq .ln (.cons (.bin .add .i64 (.var 9) (.lit 1)) (.vs 11 171 .nil))) (.cons (.var 10) (.rg (.var 5) (.vs 200 9 .nil) (.vs 11 99 .nil) (.vs 110 72 .nil)))) .nil)))
(.leaf (.cL (.lq .ln (.cons (.bin .add .i64 (.var 9) (.lit 1)) (.vs 11 171 .nil))) .nil))))))
(.leaf (.cL (.lcat (.lq .ln (.cons (.bin .add .i64 (.var 9) (.lit 1)) (.vs 11 171 .nil))) (.lq .ln (.vs 10 172 .nil))) .nil)))
(.leaf (.cL (.lcat (.lq .ln (.cons (.bin .add .i64 (.var 9) (.lit 1)) (.vs 11 171 .nil))) (.lq .ln (.vs 10 172 .nil))) .nil)))
.panic))
theorem afY:bp aaH (smN 0 [c_jnot,c_wgiv,c_jsca]) [] [(999999,[])] [] 200 Tryz.f51 c_jjump.a c_jjump.r (tp c_jjump.r) (v_Ins (.int .i64::.int .i64::v_Sta (v_Ty []))) qg:=trI (by kernel_rfl)
theorem aeZ (x:Ins) (i n:Int) (s:Sta) (b:Ty):c_jjump.F (d_Ins x (.z i::.z n::d_Sta s (d_Ty b [])))=[.l (qO x i n s b)]:=by
 simp only[c_jjump,iK,bN,ee,rdZ]
theorem apu {x:Ins} {i n:Int} {s:Sta} {b:Ty} (h:((tnth s x.d).k==1&&b.k==1)=false):qO x i n s b=[(opI .add .i64 i 1,s),(n,s)].map sRow:=by
 unfold qO vway
 rw[h];rfl
theorem anX {x:Ins} {i n:Int} {s:Sta} {b:Ty} (h:((tnth s x.d).k==1&&b.k==1)=true):qO x i n s b=(vway s x.d (tnth s x.d) b true (opI .add .i64 i 1) (dr x.op) (dh x.op)++vway s x.d (tnth s x.d) b true n x.op true).map sRow:=by
 unfold qO
 rw[h]
theorem ye {a b:Sta} {r r':List Dt} (h:d_Sta a r=d_Sta b r'):r=r':=by
 have e:∀(a:Sta) (r:List Dt),(d_Sta a r).drop 171=r:=fun a r=>by kernel_rfl
 rw[<-e a r,<-e b r',h]
theorem alN:c_jjump.Ok Tryz.prog:=
 okc qg (v_Ins (.int .i64::.int .i64::v_Sta (v_Ty []))) aau (olc anP<|olc ank<|olc adZ ol0) Tryz.func51 fn0 afY<|eG fun x hx=>fun i hi n hn=>eF fun s hs=>bE fun b hb hp U g=>by
 rw[aeZ x i n s b]
 have hd:0<=x.d/\x.d<11:=hp.1
 have g':Dt.z (U.i 0)::.z (U.i 1)::.z (U.i 2)::.z (U.i 3)::.z (b2i (U.b 4))::.z (U.i 5)::.z (U.i 6)::.z (U.i 7)::.z (U.i 8)::.z (U.i 9)::.z (U.i 10)::varsD U 11 (v_Sta (v_Ty []))=d_Ins x (.z i::.z n::d_Sta s (d_Ty b [])):=g
 simp only[d_Ins,thm5,Dt.z.injEq] at g'
 obtain⟨_,o1,_,_,_,h5,_,_,_,h9,h10,gS⟩:=g'
 rw[pJ] at gS
 have hS:staV U 11=s:=iF gS
 have hB:tyV U 182=b:=qW (r:=[]) (r':=[]) (ye gS)
 clear g gS
 unfold qg
 refine⟨fun c=> ?_,fun _=>⟨fun _=> ?_,fun c=> ?_⟩⟩
 ·simp only[E.B,E.I,h5] at c
  have:=thm3 c
  omega
 rotate_left
 ·simp only[E.B,E.I,h5] at c
  have:=thm2 c
  omega
 have ka:(E.eq (.nth (.var 5) (.sv 11 11)) (.lit 1)).B U=((tnth s x.d).k==1):=by
  show(((E.sv 11 11).L U).getD (U.i 5).toNat 0==1)=_
  rw[show(E.sv 11 11).L U=dx (staV U 11) from rfl,hS,h5];rfl
 have kb:(E.eq (.var 182) (.lit 1)).B U=(b.k==1):=by
  show((tyV U 182).k==1)=_
  rw[hB]
 have n9:(E.bin .add .i64 (.var 9) (.lit 1)).I U=opI .add .i64 i 1:=by simp only[E.I,h9]
 have two:((tnth s x.d).k==1&&b.k==1)=false->(E.cL (.lcat (.lq .ln (.cons (.bin .add .i64 (.var 9) (.lit 1)) (.vs 11 171 .nil))) (.lq .ln (.vs 10 172 .nil))) .nil).D U=[.l (qO x i n s b)]:=fun h=>by
  rw[apu h]
  show[Dt.l (([]++[(E.bin .add .i64 (.var 9) (.lit 1)).I U::(E.vs 11 171 .nil).L U])++([]++[U.i 10::(E.vs 11 171 .nil).L U]))]=_
  rw[n9,rm,hS,h10];rfl
 refine⟨fun c1=>⟨fun c2=> ?_,fun c2=>two (by rw[kb.symm.trans c2,aK])⟩,fun c1=>two (by rw[ka.symm.trans c1];rfl)⟩
 rw[anX (by rw[ka.symm.trans c1,kb.symm.trans c2];rfl)]
 refine am [.z x.op] (by show[Dt.z (U.i 1)]=_;rw[o1]) trivial (fun e=> ?_)
 have b7:U.i 191=dr x.op:=e.1
 have b8:U.b 192=dh x.op:=e.2.1.trans (fQ _)
 clear e
 have rg:∀v,(E.rg (.var 5) (.vs v 9 .nil) (.vs 11 99 .nil) (.vs (11+99) 72 .nil)).L U=staL (sreg s x.d (tyV U v)):=fun v=>by
  rw[zG,hS,show(E.var 5).I U=x.d from h5]
 refine⟨fun c8=> ?_,fun c8=> ?_⟩
 ·rw[b8.symm.trans c8]
  refine gg (v:=193) (z:=opI .add .i64 i 1) (fun _ _ _=>rfl) (fun _=>rfl) (fun _=>trivial) (fun _=>trivial) h5 hS hB b7 (fun h=> ?_) (fun h=> ?_)<;>rw[h]
  ·refine gg (v:=209) (z:=n) (fun _ _ _=>rfl) (fun _=>rfl) (fun _=>trivial) (fun _=>trivial) h5 hS hB o1 (fun h2=> ?_) (fun h2=> ?_)<;>rw[h2]
   ·show[Dt.l (([]++[(E.bin .add .i64 (.var 9) (.lit 1)).I U::(E.rg (.var 5) (.vs 200 9 .nil) (.vs 11 99 .nil) (.vs (11+99) 72 .nil)).L U])++[U.i 10::(E.rg (.var 5) (.vs 216 9 .nil) (.vs 11 99 .nil) (.vs (11+99) 72 .nil)).L U])]=_
    rw[n9,rg,rg,h10];rfl
   ·show[Dt.l ([]++[(E.bin .add .i64 (.var 9) (.lit 1)).I U::(E.rg (.var 5) (.vs 200 9 .nil) (.vs 11 99 .nil) (.vs (11+99) 72 .nil)).L U])]=_
    rw[n9,rg];rfl
  ·refine gg (v:=200) (z:=n) (fun _ _ _=>rfl) (fun _=>rfl) (fun _=>trivial) (fun _=>trivial) h5 hS hB o1 (fun h2=> ?_) (fun h2=> ?_)<;>rw[h2]
   ·show[Dt.l ([]++[U.i 10::(E.rg (.var 5) (.vs 207 9 .nil) (.vs 11 99 .nil) (.vs (11+99) 72 .nil)).L U])]=_
    rw[rg,h10];rfl
   ·rfl
 ·rw[b8.symm.trans c8,show vway s x.d (tnth s x.d) b true (opI .add .i64 i 1) (dr x.op) false=[(opI .add .i64 i 1,s)] from rfl]
  refine gg (v:=193) (z:=n) (fun _ _ _=>rfl) (fun _=>rfl) (fun _=>trivial) (fun _=>trivial) h5 hS hB o1 (fun h2=> ?_) (fun h2=> ?_)<;>rw[h2]
  ·show[Dt.l (([]++[(E.bin .add .i64 (.var 9) (.lit 1)).I U::(E.vs 11 171 .nil).L U])++[U.i 10::(E.rg (.var 5) (.vs 200 9 .nil) (.vs 11 99 .nil) (.vs (11+99) 72 .nil)).L U])]=_
   rw[n9,rm,hS,rg,h10];rfl
  ·show[Dt.l ([]++[(E.bin .add .i64 (.var 9) (.lit 1)).I U::(E.vs 11 171 .nil).L U])]=_
   rw[n9,rm,hS];rfl
theorem sR {p q q2:Prop} (k:q2) (h:p->q=q2:=by intro e;(try simp only[e,bj,-eq_self]);rfl):p->q:=fun e=>(h e).symm▸k
def aaJ:List (Nat×TI):=[(2,tiq2),
 (3,tiq3),
 (37,dS),
 (42,dR),
 (44,ew),
 (46,fR),
 (48,cK),
 (50,jT),
 (51,mK),
 (52,mJ),
 (54,uf)]
theorem aaw:∀t i,(t,i)∈aaJ->TIok Tryz.prog t i:=aV (fac (z:=z_Sc) ⟨kG,fN⟩<|fac (z:=z_Ty) ⟨kF,fM⟩ fa0) fa0 (by kernel_rfl)
def c_ystore:Cd:=⟨50,[.agg kSta,.one (.int .i64),.one (.int .i64),.one (.int .i64),.agg kTy],[.agg kSta,.one (.int .i64)],rd_Sta fun s=>rdZ fun lo=>rdZ fun hi=>rdZ fun size=>rd_Ty fun t _=>d_Sta (hJ s lo hi size t) [.z (mO s lo hi size t)],T0⟩
def mW:Tr:=
(.call 0 [.bool] (.vs 0 174 .nil) 183
(.br (.bw 183)
(.call 1 [.bool] (.vs 174 9 .nil) 184
(.br (.bw 184)
(.br (.eq (.var 174) (.lit 0))
(.leaf (.zs [0,0,0,0,0,0,0,0,0,0,0,0,0,0,0,0,0,0,0,0,0,0,0,0,0,0,0,0,0,0,0,0,0,0,0,0,0,0,0,0,0,0,0,0,0,0,0,0,0,0,0,0,0,0,0,0,0,0,0,0,0,0,0,0,0,0,0,0,0,0,0,0,0,0,0,0,0,0,0,0,0,0,0,0,0,0,0,0,0,0,0,0,0,0,0,0,0,0,0,0,0,0,0,0,0,0,0,0,0,0,0,0,0,0,0,0,0,0,0,0,0,0,0,0,0,0,0,0,0,0,0,0,0,0,0,0,0,0,0,0,0,0,0,0,0,0,0,0,0,0,0,0,0,0,0,0,0,0,0,0,0,0,0,0,0,0,0,0,0,0,0,2] .nil))
(.br (.eq (.var 173) (.lit 8))
(.br (.eq (.var 171) (.var 172))
(.br (.eq (.bin .rem .i64 (.var 171) (.lit 8)) (.lit 0))
(.br (.eq (.bin .quo .i64 (.var 171) (.lit 8)) (.lit 0))
(.leaf (.vs 0 99 (.vs 174 9 (.vs 108 63 (.cons (.lit 0) .nil)))))
(.br (.eq (.bin .quo .i64 (.var 171) (.lit 8)) (.lit 1))
(.leaf (.vs 0 108 (.vs 174 9 (.vs 117 54 (.cons (.lit 0) .nil)))))
(.br (.eq (.bin .quo .i64 (.var 171) (.lit 8)) (.lit 2))
(.leaf (.vs 0 117 (.vs 174 9 (.vs 126 45 (.cons (.lit 0) .nil)))))
(.br (.eq (.bin .quo .i64 (.var 171) (.lit 8)) (.lit 3))
(.leaf (.vs 0 126 (.vs 174 9 (.vs 135 36 (.cons (.lit 0) .nil)))))
(.br (.eq (.bin .quo .i64 (.var 171) (.lit 8)) (.lit 4))
(.leaf (.vs 0 135 (.vs 174 9 (.vs 144 27 (.cons (.lit 0) .nil)))))
(.br (.eq (.bin .quo .i64 (.var 171) (.lit 8)) (.lit 5))
(.leaf (.vs 0 144 (.vs 174 9 (.vs 153 18 (.cons (.lit 0) .nil)))))
(.br (.eq (.bin .quo .i64 (.var 171) (.lit 8)) (.lit 6))
(.leaf (.vs 0 153 (.vs 174 9 (.vs 162 9 (.cons (.lit 0) .nil)))))
(.br (.eq (.bin .quo .i64 (.var 171) (.lit 8)) (.lit 7))
(.leaf (.vs 0 162 (.vs 174 9 (.cons (.lit 0) .nil))))
.panic))))))))
(.loop 0 185 [.int .i64,.int .i8,.int .u64,.int .u64,.int .i64,.int .i64,.int .u64,.int .u64,.int .i64,.int .i64,.int .i8,.int .u64,.int .u64,.int .i64,.int .i64,.int .u64,.int .u64,.int .i64,.int .i64,.int .i8,.int .u64,.int .u64,.int .i64,.int .i64,.int .u64,.int .u64,.int .i64,.int .i64,.int .i8,.int .u64,.int .u64,.int .i64,.int .i64,.int .u64,.int .u64,.int .i64,.int .i64,.int .i8,.int .u64,.int .u64,.int .i64,.int .i64,.int .u64,.int .u64,.int .i64,.int .i64,.int .i8,.int .u64,.int .u64,.int .i64,.int .i64,.int .u64,.int .u64,.int .i64,.int .i64,.int .i8,.int .u64,.int .u64,.int .i64,.int .i64,.int .u64,.int .u64,.int .i64,.int .i64,.int .i8,.int .u64,.int .u64,.int .i64,.int .i64,.int .u64,.int .u64,.int .i64,.int .i64] (.cons (.var 171) (.vs 99 72 .nil))
(.br (.lt (.var 185) (.bin .add .i64 (.var 172) (.var 173)))
(.call 2 (kTy) .nil 258
(.br (.eq (.bin .quo .i64 (.var 185) (.lit 8)) (.lit 0))
(.next 0 (.cons (.bin .add .i64 (.var 185) (.lit 1)) (.vs 258 9 (.vs 195 63 .nil))))
(.br (.eq (.bin .quo .i64 (.var 185) (.lit 8)) (.lit 1))
(.next 0 (.cons (.bin .add .i64 (.var 185) (.lit 1)) (.vs 186 9 (.vs 258 9 (.vs 204 54 .nil)))))
(.br (.eq (.bin .quo .i64 (.var 185) (.lit 8)) (.lit 2))
(.next 0 (.cons (.bin .add .i64 (.var 185) (.lit 1)) (.vs 186 18 (.vs 258 9 (.vs 213 45 .nil)))))
(.br (.eq (.bin .quo .i64 (.var 185) (.lit 8)) (.lit 3))
(.next 0 (.cons (.bin .add .i64 (.var 185) (.lit 1)) (.vs 186 27 (.vs 258 9 (.vs 222 36 .nil)))))
(.br (.eq (.bin .quo .i64 (.var 185) (.lit 8)) (.lit 4))
(.next 0 (.cons (.bin .add .i64 (.var 185) (.lit 1)) (.vs 186 36 (.vs 258 9 (.vs 231 27 .nil)))))
(.br (.eq (.bin .quo .i64 (.var 185) (.lit 8)) (.lit 5))
(.next 0 (.cons (.bin .add .i64 (.var 185) (.lit 1)) (.vs 186 45 (.vs 258 9 (.vs 240 18 .nil)))))
(.br (.eq (.bin .quo .i64 (.var 185) (.lit 8)) (.lit 6))
(.next 0 (.cons (.bin .add .i64 (.var 185) (.lit 1)) (.vs 186 54 (.vs 258 9 (.vs 249 9 .nil)))))
(.br (.eq (.bin .quo .i64 (.var 185) (.lit 8)) (.lit 7))
(.next 0 (.cons (.bin .add .i64 (.var 185) (.lit 1)) (.vs 186 63 (.vs 258 9 .nil))))
.panic)))))))))
(.leaf (.vs 0 99 (.vs 186 72 (.cons (.lit 0) .nil)))))))
(.loop 0 185 [.int .i64,.int .i8,.int .u64,.int .u64,.int .i64,.int .i64,.int .u64,.int .u64,.int .i64,.int .i64,.int .i8,.int .u64,.int .u64,.int .i64,.int .i64,.int .u64,.int .u64,.int .i64,.int .i64,.int .i8,.int .u64,.int .u64,.int .i64,.int .i64,.int .u64,.int .u64,.int .i64,.int .i64,.int .i8,.int .u64,.int .u64,.int .i64,.int .i64,.int .u64,.int .u64,.int .i64,.int .i64,.int .i8,.int .u64,.int .u64,.int .i64,.int .i64,.int .u64,.int .u64,.int .i64,.int .i64,.int .i8,.int .u64,.int .u64,.int .i64,.int .i64,.int .u64,.int .u64,.int .i64,.int .i64,.int .i8,.int .u64,.int .u64,.int .i64,.int .i64,.int .u64,.int .u64,.int .i64,.int .i64,.int .i8,.int .u64,.int .u64,.int .i64,.int .i64,.int .u64,.int .u64,.int .i64,.int .i64] (.cons (.var 171) (.vs 99 72 .nil))
(.br (.lt (.var 185) (.bin .add .i64 (.var 172) (.var 173)))
(.call 2 (kTy) .nil 258
(.br (.eq (.bin .quo .i64 (.var 185) (.lit 8)) (.lit 0))
(.next 0 (.cons (.bin .add .i64 (.var 185) (.lit 1)) (.vs 258 9 (.vs 195 63 .nil))))
(.br (.eq (.bin .quo .i64 (.var 185) (.lit 8)) (.lit 1))
(.next 0 (.cons (.bin .add .i64 (.var 185) (.lit 1)) (.vs 186 9 (.vs 258 9 (.vs 204 54 .nil)))))
(.br (.eq (.bin .quo .i64 (.var 185) (.lit 8)) (.lit 2))
(.next 0 (.cons (.bin .add .i64 (.var 185) (.lit 1)) (.vs 186 18 (.vs 258 9 (.vs 213 45 .nil)))))
(.br (.eq (.bin .quo .i64 (.var 185) (.lit 8)) (.lit 3))
(.next 0 (.cons (.bin .add .i64 (.var 185) (.lit 1)) (.vs 186 27 (.vs 258 9 (.vs 222 36 .nil)))))
(.br (.eq (.bin .quo .i64 (.var 185) (.lit 8)) (.lit 4))
(.next 0 (.cons (.bin .add .i64 (.var 185) (.lit 1)) (.vs 186 36 (.vs 258 9 (.vs 231 27 .nil)))))
(.br (.eq (.bin .quo .i64 (.var 185) (.lit 8)) (.lit 5))
(.next 0 (.cons (.bin .add .i64 (.var 185) (.lit 1)) (.vs 186 45 (.vs 258 9 (.vs 240 18 .nil)))))
(.br (.eq (.bin .quo .i64 (.var 185) (.lit 8)) (.lit 6))
(.next 0 (.cons (.bin .add .i64 (.var 185) (.lit 1)) (.vs 186 54 (.vs 258 9 (.vs 249 9 .nil)))))
(.br (.eq (.bin .quo .i64 (.var 185) (.lit 8)) (.lit 7))
(.next 0 (.cons (.bin .add .i64 (.var 185) (.lit 1)) (.vs 186 63 (.vs 258 9 .nil))))
.panic)))))))))
(.leaf (.vs 0 99 (.vs 186 72 (.cons (.lit 0) .nil)))))))
(.loop 0 185 [.int .i64,.int .i8,.int .u64,.int .u64,.int .i64,.int .i64,.int .u64,.int .u64,.int .i64,.int .i64,.int .i8,.int .u64,.int .u64,.int .i64,.int .i64,.int .u64,.int .u64,.int .i64,.int .i64,.int .i8,.int .u64,.int .u64,.int .i64,.int .i64,.int .u64,.int .u64,.int .i64,.int .i64,.int .i8,.int .u64,.int .u64,.int .i64,.int .i64,.int .u64,.int .u64,.int .i64,.int .i64,.int .i8,.int .u64,.int .u64,.int .i64,.int .i64,.int .u64,.int .u64,.int .i64,.int .i64,.int .i8,.int .u64,.int .u64,.int .i64,.int .i64,.int .u64,.int .u64,.int .i64,.int .i64,.int .i8,.int .u64,.int .u64,.int .i64,.int .i64,.int .u64,.int .u64,.int .i64,.int .i64,.int .i8,.int .u64,.int .u64,.int .i64,.int .i64,.int .u64,.int .u64,.int .i64,.int .i64] (.cons (.var 171) (.vs 99 72 .nil))
(.br (.lt (.var 185) (.bin .add .i64 (.var 172) (.var 173)))
(.call 2 (kTy) .nil 258
(.br (.eq (.bin .quo .i64 (.var 185) (.lit 8)) (.lit 0))
(.next 0 (.cons (.bin .add .i64 (.var 185) (.lit 1)) (.vs 258 9 (.vs 195 63 .nil))))
(.br (.eq (.bin .quo .i64 (.var 185) (.lit 8)) (.lit 1))
(.next 0 (.cons (.bin .add .i64 (.var 185) (.lit 1)) (.vs 186 9 (.vs 258 9 (.vs 204 54 .nil)))))
(.br (.eq (.bin .quo .i64 (.var 185) (.lit 8)) (.lit 2))
(.next 0 (.cons (.bin .add .i64 (.var 185) (.lit 1)) (.vs 186 18 (.vs 258 9 (.vs 213 45 .nil)))))
(.br (.eq (.bin .quo .i64 (.var 185) (.lit 8)) (.lit 3))
(.next 0 (.cons (.bin .add .i64 (.var 185) (.lit 1)) (.vs 186 27 (.vs 258 9 (.vs 222 36 .nil)))))
(.br (.eq (.bin .quo .i64 (.var 185) (.lit 8)) (.lit 4))
(.next 0 (.cons (.bin .add .i64 (.var 185) (.lit 1)) (.vs 186 36 (.vs 258 9 (.vs 231 27 .nil)))))
(.br (.eq (.bin .quo .i64 (.var 185) (.lit 8)) (.lit 5))
(.next 0 (.cons (.bin .add .i64 (.var 185) (.lit 1)) (.vs 186 45 (.vs 258 9 (.vs 240 18 .nil)))))
(.br (.eq (.bin .quo .i64 (.var 185) (.lit 8)) (.lit 6))
(.next 0 (.cons (.bin .add .i64 (.var 185) (.lit 1)) (.vs 186 54 (.vs 258 9 (.vs 249 9 .nil)))))
(.br (.eq (.bin .quo .i64 (.var 185) (.lit 8)) (.lit 7))
(.next 0 (.cons (.bin .add .i64 (.var 185) (.lit 1)) (.vs 186 63 (.vs 258 9 .nil))))
.panic)))))))))
(.leaf (.vs 0 99 (.vs 186 72 (.cons (.lit 0) .nil))))))))
(.leaf (.zs [0,0,0,0,0,0,0,0,0,0,0,0,0,0,0,0,0,0,0,0,0,0,0,0,0,0,0,0,0,0,0,0,0,0,0,0,0,0,0,0,0,0,0,0,0,0,0,0,0,0,0,0,0,0,0,0,0,0,0,0,0,0,0,0,0,0,0,0,0,0,0,0,0,0,0,0,0,0,0,0,0,0,0,0,0,0,0,0,0,0,0,0,0,0,0,0,0,0,0,0,0,0,0,0,0,0,0,0,0,0,0,0,0,0,0,0,0,0,0,0,0,0,0,0,0,0,0,0,0,0,0,0,0,0,0,0,0,0,0,0,0,0,0,0,0,0,0,0,0,0,0,0,0,0,0,0,0,0,0,0,0,0,0,0,0,0,0,0,0,0,0,2] .nil))))
(.leaf (.zs [0,0,0,0,0,0,0,0,0,0,0,0,0,0,0,0,0,0,0,0,0,0,0,0,0,0,0,0,0,0,0,0,0,0,0,0,0,0,0,0,0,0,0,0,0,0,0,0,0,0,0,0,0,0,0,0,0,0,0,0,0,0,0,0,0,0,0,0,0,0,0,0,0,0,0,0,0,0,0,0,0,0,0,0,0,0,0,0,0,0,0,0,0,0,0,0,0,0,0,0,0,0,0,0,0,0,0,0,0,0,0,0,0,0,0,0,0,0,0,0,0,0,0,0,0,0,0,0,0,0,0,0,0,0,0,0,0,0,0,0,0,0,0,0,0,0,0,0,0,0,0,0,0,0,0,0,0,0,0,0,0,0,0,0,0,0,0,0,0,0,0,2] .nil))))
theorem acK:bp aaJ (smN 0 [c_yacc,c_ytok,c_yscal]) [] [(7,[.tmpI 12 .i64,.cI 0 99 .i8,.cI 0 100 .u64,.cI 0 101 .u64,.cI 0 102 .i64,.cI 0 103 .i64,.cI 0 104 .u64,.cI 0 105 .u64,.cI 0 106 .i64,.cI 0 107 .i64,.cI 0 108 .i8,.cI 0 109 .u64,.cI 0 110 .u64,.cI 0 111 .i64,.cI 0 112 .i64,.cI 0 113 .u64,.cI 0 114 .u64,.cI 0 115 .i64,.cI 0 116 .i64,.cI 0 117 .i8,.cI 0 118 .u64,.cI 0 119 .u64,.cI 0 120 .i64,.cI 0 121 .i64,.cI 0 122 .u64,.cI 0 123 .u64,.cI 0 124 .i64,.cI 0 125 .i64,.cI 0 126 .i8,.cI 0 127 .u64,.cI 0 128 .u64,.cI 0 129 .i64,.cI 0 130 .i64,.cI 0 131 .u64,.cI 0 132 .u64,.cI 0 133 .i64,.cI 0 134 .i64,.cI 0 135 .i8,.cI 0 136 .u64,.cI 0 137 .u64,.cI 0 138 .i64,.cI 0 139 .i64,.cI 0 140 .u64,.cI 0 141 .u64,.cI 0 142 .i64,.cI 0 143 .i64,.cI 0 144 .i8,.cI 0 145 .u64,.cI 0 146 .u64,.cI 0 147 .i64,.cI 0 148 .i64,.cI 0 149 .u64,.cI 0 150 .u64,.cI 0 151 .i64,.cI 0 152 .i64,.cI 0 153 .i8,.cI 0 154 .u64,.cI 0 155 .u64,.cI 0 156 .i64,.cI 0 157 .i64,.cI 0 158 .u64,.cI 0 159 .u64,.cI 0 160 .i64,.cI 0 161 .i64,.cI 0 162 .i8,.cI 0 163 .u64,.cI 0 164 .u64,.cI 0 165 .i64,.cI 0 166 .i64,.cI 0 167 .u64,.cI 0 168 .u64,.cI 0 169 .i64,.cI 0 170 .i64]++tps [(0,2),(4,1),(6,4),(11,1),(13,49)])] [] 200 Tryz.f50 c_ystore.a c_ystore.r (tp c_ystore.r) (v_Sta (.int .i64::.int .i64::.int .i64::v_Ty [])) mW:=trI (by kernel_rfl)
theorem agw:c_ystore.Ok Tryz.prog:=
 okc mW (v_Sta (.int .i64::.int .i64::.int .i64::v_Ty [])) aaw (olc ah8<|olc ah6<|olc qK ol0) Tryz.func50 fn0 acK<|eF fun s hs=>fun lo hlo hi hhi size hsize=>bE fun t ht hp U g=>by
 have keepg:=g
 simp only[c_ystore,bN,ee,rdZ,rdB,rdL]
 simp only[eU,q_Ty,gS1,Nat.reduceAdd] at g
 simp(maxSteps:=10000000) only[mW,spQ,c_yacc,c_ytok,c_yscal,rdZ,rdB,rdL,c_ystore,eU,q_Ty,simQ,ab,S1,Nat.reduceSub,Nat.reduceAdd,-eq_self,bj,g]
 refine sR ?_
 constructor<;>intro c0
 refine sR ?_
 constructor<;>intro c1
 constructor<;>intro c2
 ·rw[(cA (.inr (vN c2))).1,(cA (.inr (vN c2))).2];rfl
 constructor<;>intro c3
 constructor<;>intro c4
 constructor<;>intro c5
 constructor<;>intro c6
 ·have e:=eqz c6
  rw[(au c0 (bg c2 c1) (bJ c3 c4 c5)).1,(au c0 (bg c2 c1) (bJ c3 c4 c5)).2,e];rfl
 constructor<;>intro c7
 ·have e:=eqz c7
  rw[(au c0 (bg c2 c1) (bJ c3 c4 c5)).1,(au c0 (bg c2 c1) (bJ c3 c4 c5)).2,e];rfl
 constructor<;>intro c8
 ·have e:=eqz c8
  rw[(au c0 (bg c2 c1) (bJ c3 c4 c5)).1,(au c0 (bg c2 c1) (bJ c3 c4 c5)).2,e];rfl
 constructor<;>intro c9
 ·have e:=eqz c9
  rw[(au c0 (bg c2 c1) (bJ c3 c4 c5)).1,(au c0 (bg c2 c1) (bJ c3 c4 c5)).2,e];rfl
 constructor<;>intro c10
 ·have e:=eqz c10
  rw[(au c0 (bg c2 c1) (bJ c3 c4 c5)).1,(au c0 (bg c2 c1) (bJ c3 c4 c5)).2,e];rfl
 constructor<;>intro c11
 ·have e:=eqz c11
  rw[(au c0 (bg c2 c1) (bJ c3 c4 c5)).1,(au c0 (bg c2 c1) (bJ c3 c4 c5)).2,e];rfl
 constructor<;>intro c12
 ·have e:=eqz c12
  rw[(au c0 (bg c2 c1) (bJ c3 c4 c5)).1,(au c0 (bg c2 c1) (bJ c3 c4 c5)).2,e];rfl
 constructor<;>intro c13
 ·have e:=eqz c13
  rw[(au c0 (bg c2 c1) (bJ c3 c4 c5)).1,(au c0 (bg c2 c1) (bJ c3 c4 c5)).2,e];rfl
 ·exact qx c0 rfl c6 c7 c8 c9 c10 c11 c12 c13
 obtain⟨q1,q2,q3,q4,q5⟩:=ig c0
 refine⟨fun ds=>∃n:Int,ds=.z n::sd (sput s (pbyt lo n) ea)/\lo<=n/\n<=hi+size,fun ds=>(100-dI ds 0).toNat,⟨lo,by rw[jV (fun k h0 h1=>by unfold pbyt;simp)];try rfl,by omega,by omega⟩,?_⟩
 intro U1 ha1 _ hi1
 obtain⟨n,hds,r1,r2⟩:=hi1
 simp only[sd,thm5,Dt.z.injEq,Nat.reduceAdd,and_true] at hds
 have keepg1:=(dF ha1 _ 0 (by decide)).trans keepg
 have g1:=keepg1
 simp only[eU,q_Ty,gS1,Nat.reduceAdd] at g1
 simp only[g1,hds,-eq_self]
 constructor<;>intro c14
 refine sR ?_
 constructor<;>intro c15
 ·have h9:=thm3 c14
  have q6:=(cq c0).2
  rw[q6] at h9
  have e:=eqz c15
  rw[quo8 (by omega) (by omega)] at e
  refine⟨⟨n+1,?_,by omega,by omega⟩,?_⟩
  ·rw[mc (q:=pbyt lo (n+1)) (p:=pbyt lo n) (fun k h _=>by rw[bf q2 r1 h,e]),add1 (by omega) (by omega)];rfl
  ·show(100-opI .add .i64 n 1).toNat<(100-n).toNat;rw[add1 (by omega) (by omega)];omega
 constructor<;>intro c16
 ·have h9:=thm3 c14
  have q6:=(cq c0).2
  rw[q6] at h9
  have e:=eqz c16
  rw[quo8 (by omega) (by omega)] at e
  refine⟨⟨n+1,?_,by omega,by omega⟩,?_⟩
  ·rw[lZ (q:=pbyt lo (n+1)) (p:=pbyt lo n) (fun k h _=>by rw[bf q2 r1 h,e]),add1 (by omega) (by omega)];rfl
  ·show(100-opI .add .i64 n 1).toNat<(100-n).toNat;rw[add1 (by omega) (by omega)];omega
 constructor<;>intro c17
 ·have h9:=thm3 c14
  have q6:=(cq c0).2
  rw[q6] at h9
  have e:=eqz c17
  rw[quo8 (by omega) (by omega)] at e
  refine⟨⟨n+1,?_,by omega,by omega⟩,?_⟩
  ·rw[lY (q:=pbyt lo (n+1)) (p:=pbyt lo n) (fun k h _=>by rw[bf q2 r1 h,e]),add1 (by omega) (by omega)];rfl
  ·show(100-opI .add .i64 n 1).toNat<(100-n).toNat;rw[add1 (by omega) (by omega)];omega
 constructor<;>intro c18
 ·have h9:=thm3 c14
  have q6:=(cq c0).2
  rw[q6] at h9
  have e:=eqz c18
  rw[quo8 (by omega) (by omega)] at e
  refine⟨⟨n+1,?_,by omega,by omega⟩,?_⟩
  ·rw[lX (q:=pbyt lo (n+1)) (p:=pbyt lo n) (fun k h _=>by rw[bf q2 r1 h,e]),add1 (by omega) (by omega)];rfl
  ·show(100-opI .add .i64 n 1).toNat<(100-n).toNat;rw[add1 (by omega) (by omega)];omega
 constructor<;>intro c19
 ·have h9:=thm3 c14
  have q6:=(cq c0).2
  rw[q6] at h9
  have e:=eqz c19
  rw[quo8 (by omega) (by omega)] at e
  refine⟨⟨n+1,?_,by omega,by omega⟩,?_⟩
  ·rw[lW (q:=pbyt lo (n+1)) (p:=pbyt lo n) (fun k h _=>by rw[bf q2 r1 h,e]),add1 (by omega) (by omega)];rfl
  ·show(100-opI .add .i64 n 1).toNat<(100-n).toNat;rw[add1 (by omega) (by omega)];omega
 constructor<;>intro c20
 ·have h9:=thm3 c14
  have q6:=(cq c0).2
  rw[q6] at h9
  have e:=eqz c20
  rw[quo8 (by omega) (by omega)] at e
  refine⟨⟨n+1,?_,by omega,by omega⟩,?_⟩
  ·rw[lV (q:=pbyt lo (n+1)) (p:=pbyt lo n) (fun k h _=>by rw[bf q2 r1 h,e]),add1 (by omega) (by omega)];rfl
  ·show(100-opI .add .i64 n 1).toNat<(100-n).toNat;rw[add1 (by omega) (by omega)];omega
 constructor<;>intro c21
 ·have h9:=thm3 c14
  have q6:=(cq c0).2
  rw[q6] at h9
  have e:=eqz c21
  rw[quo8 (by omega) (by omega)] at e
  refine⟨⟨n+1,?_,by omega,by omega⟩,?_⟩
  ·rw[lU (q:=pbyt lo (n+1)) (p:=pbyt lo n) (fun k h _=>by rw[bf q2 r1 h,e]),add1 (by omega) (by omega)];rfl
  ·show(100-opI .add .i64 n 1).toNat<(100-n).toNat;rw[add1 (by omega) (by omega)];omega
 constructor<;>intro c22
 ·have h9:=thm3 c14
  have q6:=(cq c0).2
  rw[q6] at h9
  have e:=eqz c22
  rw[quo8 (by omega) (by omega)] at e
  refine⟨⟨n+1,?_,by omega,by omega⟩,?_⟩
  ·rw[lT (q:=pbyt lo (n+1)) (p:=pbyt lo n) (fun k h _=>by rw[bf q2 r1 h,e]),add1 (by omega) (by omega)];rfl
  ·show(100-opI .add .i64 n 1).toNat<(100-n).toNat;rw[add1 (by omega) (by omega)];omega
 ·have h9:=thm3 c14
  have q6:=(cq c0).2
  rw[q6] at h9
  simp only[beq_eq_false_iff_ne] at c15 c16 c17 c18 c19 c20 c21 c22
  simp only[quo8 (i:=n) (by omega) (by omega)] at c15 c16 c17 c18 c19 c20 c21 c22
  omega
 ·have h9:=thm2 c14
  have q6:=(cq c0).2
  rw[q6] at h9
  rw[(cU c0 (bg c2 c1) (pO c5)).1,(cU c0 (bg c2 c1) (pO c5)).2,<-vq c0 (n:=n) (by omega)];rfl
 obtain⟨q1,q2,q3,q4,q5⟩:=ig c0
 refine⟨fun ds=>∃n:Int,ds=.z n::sd (sput s (pbyt lo n) ea)/\lo<=n/\n<=hi+size,fun ds=>(100-dI ds 0).toNat,⟨lo,by rw[jV (fun k h0 h1=>by unfold pbyt;simp)];try rfl,by omega,by omega⟩,?_⟩
 intro U1 ha1 _ hi1
 obtain⟨n,hds,r1,r2⟩:=hi1
 simp only[sd,thm5,Dt.z.injEq,Nat.reduceAdd,and_true] at hds
 have keepg1:=(dF ha1 _ 0 (by decide)).trans keepg
 have g1:=keepg1
 simp only[eU,q_Ty,gS1,Nat.reduceAdd] at g1
 simp only[g1,hds,-eq_self]
 constructor<;>intro c23
 refine sR ?_
 constructor<;>intro c24
 ·have h9:=thm3 c23
  have q6:=(cq c0).2
  rw[q6] at h9
  have e:=eqz c24
  rw[quo8 (by omega) (by omega)] at e
  refine⟨⟨n+1,?_,by omega,by omega⟩,?_⟩
  ·rw[mc (q:=pbyt lo (n+1)) (p:=pbyt lo n) (fun k h _=>by rw[bf q2 r1 h,e]),add1 (by omega) (by omega)];rfl
  ·show(100-opI .add .i64 n 1).toNat<(100-n).toNat;rw[add1 (by omega) (by omega)];omega
 constructor<;>intro c25
 ·have h9:=thm3 c23
  have q6:=(cq c0).2
  rw[q6] at h9
  have e:=eqz c25
  rw[quo8 (by omega) (by omega)] at e
  refine⟨⟨n+1,?_,by omega,by omega⟩,?_⟩
  ·rw[lZ (q:=pbyt lo (n+1)) (p:=pbyt lo n) (fun k h _=>by rw[bf q2 r1 h,e]),add1 (by omega) (by omega)];rfl
  ·show(100-opI .add .i64 n 1).toNat<(100-n).toNat;rw[add1 (by omega) (by omega)];omega
 constructor<;>intro c26
 ·have h9:=thm3 c23
  have q6:=(cq c0).2
  rw[q6] at h9
  have e:=eqz c26
  rw[quo8 (by omega) (by omega)] at e
  refine⟨⟨n+1,?_,by omega,by omega⟩,?_⟩
  ·rw[lY (q:=pbyt lo (n+1)) (p:=pbyt lo n) (fun k h _=>by rw[bf q2 r1 h,e]),add1 (by omega) (by omega)];rfl
  ·show(100-opI .add .i64 n 1).toNat<(100-n).toNat;rw[add1 (by omega) (by omega)];omega
 constructor<;>intro c27
 ·have h9:=thm3 c23
  have q6:=(cq c0).2
  rw[q6] at h9
  have e:=eqz c27
  rw[quo8 (by omega) (by omega)] at e
  refine⟨⟨n+1,?_,by omega,by omega⟩,?_⟩
  ·rw[lX (q:=pbyt lo (n+1)) (p:=pbyt lo n) (fun k h _=>by rw[bf q2 r1 h,e]),add1 (by omega) (by omega)];rfl
  ·show(100-opI .add .i64 n 1).toNat<(100-n).toNat;rw[add1 (by omega) (by omega)];omega
 constructor<;>intro c28
 ·have h9:=thm3 c23
  have q6:=(cq c0).2
  rw[q6] at h9
  have e:=eqz c28
  rw[quo8 (by omega) (by omega)] at e
  refine⟨⟨n+1,?_,by omega,by omega⟩,?_⟩
  ·rw[lW (q:=pbyt lo (n+1)) (p:=pbyt lo n) (fun k h _=>by rw[bf q2 r1 h,e]),add1 (by omega) (by omega)];rfl
  ·show(100-opI .add .i64 n 1).toNat<(100-n).toNat;rw[add1 (by omega) (by omega)];omega
 constructor<;>intro c29
 ·have h9:=thm3 c23
  have q6:=(cq c0).2
  rw[q6] at h9
  have e:=eqz c29
  rw[quo8 (by omega) (by omega)] at e
  refine⟨⟨n+1,?_,by omega,by omega⟩,?_⟩
  ·rw[lV (q:=pbyt lo (n+1)) (p:=pbyt lo n) (fun k h _=>by rw[bf q2 r1 h,e]),add1 (by omega) (by omega)];rfl
  ·show(100-opI .add .i64 n 1).toNat<(100-n).toNat;rw[add1 (by omega) (by omega)];omega
 constructor<;>intro c30
 ·have h9:=thm3 c23
  have q6:=(cq c0).2
  rw[q6] at h9
  have e:=eqz c30
  rw[quo8 (by omega) (by omega)] at e
  refine⟨⟨n+1,?_,by omega,by omega⟩,?_⟩
  ·rw[lU (q:=pbyt lo (n+1)) (p:=pbyt lo n) (fun k h _=>by rw[bf q2 r1 h,e]),add1 (by omega) (by omega)];rfl
  ·show(100-opI .add .i64 n 1).toNat<(100-n).toNat;rw[add1 (by omega) (by omega)];omega
 constructor<;>intro c31
 ·have h9:=thm3 c23
  have q6:=(cq c0).2
  rw[q6] at h9
  have e:=eqz c31
  rw[quo8 (by omega) (by omega)] at e
  refine⟨⟨n+1,?_,by omega,by omega⟩,?_⟩
  ·rw[lT (q:=pbyt lo (n+1)) (p:=pbyt lo n) (fun k h _=>by rw[bf q2 r1 h,e]),add1 (by omega) (by omega)];rfl
  ·show(100-opI .add .i64 n 1).toNat<(100-n).toNat;rw[add1 (by omega) (by omega)];omega
 ·have h9:=thm3 c23
  have q6:=(cq c0).2
  rw[q6] at h9
  simp only[beq_eq_false_iff_ne] at c24 c25 c26 c27 c28 c29 c30 c31
  simp only[quo8 (i:=n) (by omega) (by omega)] at c24 c25 c26 c27 c28 c29 c30 c31
  omega
 ·have h9:=thm2 c23
  have q6:=(cq c0).2
  rw[q6] at h9
  rw[(cU c0 (bg c2 c1) (mP c4)).1,(cU c0 (bg c2 c1) (mP c4)).2,<-vq c0 (n:=n) (by omega)];rfl
 obtain⟨q1,q2,q3,q4,q5⟩:=ig c0
 refine⟨fun ds=>∃n:Int,ds=.z n::sd (sput s (pbyt lo n) ea)/\lo<=n/\n<=hi+size,fun ds=>(100-dI ds 0).toNat,⟨lo,by rw[jV (fun k h0 h1=>by unfold pbyt;simp)];try rfl,by omega,by omega⟩,?_⟩
 intro U1 ha1 _ hi1
 obtain⟨n,hds,r1,r2⟩:=hi1
 simp only[sd,thm5,Dt.z.injEq,Nat.reduceAdd,and_true] at hds
 have keepg1:=(dF ha1 _ 0 (by decide)).trans keepg
 have g1:=keepg1
 simp only[eU,q_Ty,gS1,Nat.reduceAdd] at g1
 simp only[g1,hds,-eq_self]
 constructor<;>intro c32
 refine sR ?_
 constructor<;>intro c33
 ·have h9:=thm3 c32
  have q6:=(cq c0).2
  rw[q6] at h9
  have e:=eqz c33
  rw[quo8 (by omega) (by omega)] at e
  refine⟨⟨n+1,?_,by omega,by omega⟩,?_⟩
  ·rw[mc (q:=pbyt lo (n+1)) (p:=pbyt lo n) (fun k h _=>by rw[bf q2 r1 h,e]),add1 (by omega) (by omega)];rfl
  ·show(100-opI .add .i64 n 1).toNat<(100-n).toNat;rw[add1 (by omega) (by omega)];omega
 constructor<;>intro c34
 ·have h9:=thm3 c32
  have q6:=(cq c0).2
  rw[q6] at h9
  have e:=eqz c34
  rw[quo8 (by omega) (by omega)] at e
  refine⟨⟨n+1,?_,by omega,by omega⟩,?_⟩
  ·rw[lZ (q:=pbyt lo (n+1)) (p:=pbyt lo n) (fun k h _=>by rw[bf q2 r1 h,e]),add1 (by omega) (by omega)];rfl
  ·show(100-opI .add .i64 n 1).toNat<(100-n).toNat;rw[add1 (by omega) (by omega)];omega
 constructor<;>intro c35
 ·have h9:=thm3 c32
  have q6:=(cq c0).2
  rw[q6] at h9
  have e:=eqz c35
  rw[quo8 (by omega) (by omega)] at e
  refine⟨⟨n+1,?_,by omega,by omega⟩,?_⟩
  ·rw[lY (q:=pbyt lo (n+1)) (p:=pbyt lo n) (fun k h _=>by rw[bf q2 r1 h,e]),add1 (by omega) (by omega)];rfl
  ·show(100-opI .add .i64 n 1).toNat<(100-n).toNat;rw[add1 (by omega) (by omega)];omega
 constructor<;>intro c36
 ·have h9:=thm3 c32
  have q6:=(cq c0).2
  rw[q6] at h9
  have e:=eqz c36
  rw[quo8 (by omega) (by omega)] at e
  refine⟨⟨n+1,?_,by omega,by omega⟩,?_⟩
  ·rw[lX (q:=pbyt lo (n+1)) (p:=pbyt lo n) (fun k h _=>by rw[bf q2 r1 h,e]),add1 (by omega) (by omega)];rfl
  ·show(100-opI .add .i64 n 1).toNat<(100-n).toNat;rw[add1 (by omega) (by omega)];omega
 constructor<;>intro c37
 ·have h9:=thm3 c32
  have q6:=(cq c0).2
  rw[q6] at h9
  have e:=eqz c37
  rw[quo8 (by omega) (by omega)] at e
  refine⟨⟨n+1,?_,by omega,by omega⟩,?_⟩
  ·rw[lW (q:=pbyt lo (n+1)) (p:=pbyt lo n) (fun k h _=>by rw[bf q2 r1 h,e]),add1 (by omega) (by omega)];rfl
  ·show(100-opI .add .i64 n 1).toNat<(100-n).toNat;rw[add1 (by omega) (by omega)];omega
 constructor<;>intro c38
 ·have h9:=thm3 c32
  have q6:=(cq c0).2
  rw[q6] at h9
  have e:=eqz c38
  rw[quo8 (by omega) (by omega)] at e
  refine⟨⟨n+1,?_,by omega,by omega⟩,?_⟩
  ·rw[lV (q:=pbyt lo (n+1)) (p:=pbyt lo n) (fun k h _=>by rw[bf q2 r1 h,e]),add1 (by omega) (by omega)];rfl
  ·show(100-opI .add .i64 n 1).toNat<(100-n).toNat;rw[add1 (by omega) (by omega)];omega
 constructor<;>intro c39
 ·have h9:=thm3 c32
  have q6:=(cq c0).2
  rw[q6] at h9
  have e:=eqz c39
  rw[quo8 (by omega) (by omega)] at e
  refine⟨⟨n+1,?_,by omega,by omega⟩,?_⟩
  ·rw[lU (q:=pbyt lo (n+1)) (p:=pbyt lo n) (fun k h _=>by rw[bf q2 r1 h,e]),add1 (by omega) (by omega)];rfl
  ·show(100-opI .add .i64 n 1).toNat<(100-n).toNat;rw[add1 (by omega) (by omega)];omega
 constructor<;>intro c40
 ·have h9:=thm3 c32
  have q6:=(cq c0).2
  rw[q6] at h9
  have e:=eqz c40
  rw[quo8 (by omega) (by omega)] at e
  refine⟨⟨n+1,?_,by omega,by omega⟩,?_⟩
  ·rw[lT (q:=pbyt lo (n+1)) (p:=pbyt lo n) (fun k h _=>by rw[bf q2 r1 h,e]),add1 (by omega) (by omega)];rfl
  ·show(100-opI .add .i64 n 1).toNat<(100-n).toNat;rw[add1 (by omega) (by omega)];omega
 ·have h9:=thm3 c32
  have q6:=(cq c0).2
  rw[q6] at h9
  simp only[beq_eq_false_iff_ne] at c33 c34 c35 c36 c37 c38 c39 c40
  simp only[quo8 (i:=n) (by omega) (by omega)] at c33 c34 c35 c36 c37 c38 c39 c40
  omega
 ·have h9:=thm2 c32
  have q6:=(cq c0).2
  rw[q6] at h9
  rw[(cU c0 (bg c2 c1) (mQ c3)).1,(cU c0 (bg c2 c1) (mQ c3)).2,<-vq c0 (n:=n) (by omega)];rfl
 ·rw[(cA (.inr (vM c1))).1,(cA (.inr (vM c1))).2];rfl
 ·rw[(cA (.inl c0)).1,(cA (.inl c0)).2];rfl
def bY (x:Ins):Ins:=
 if x.k=0 then⟨x.k,x.op,x.w,0,x.br &&!(x.op==8),x.d,if x.br=true/\x.op≠8 then x.s else 0,0,if x.br=true\/x.op=8 then 0 else x.imm⟩
 else if x.k=1\/x.k=2 then⟨x.k,0,0,x.sz,false,x.d,x.s,x.off,0⟩
 else if x.k=3 then⟨x.k,x.op,0,0,x.br,x.d,if x.br=true then x.s else 0,x.off,if x.br=true then 0 else x.imm⟩
 else if x.k=4 then⟨x.k,0,0,0,false,0,0,x.off,0⟩
 else if x.k=5 then⟨x.k,0,0,0,false,0,0,0,x.imm⟩
 else⟨x.k,0,0,0,false,0,0,0,0⟩
def cn (x:Ins):Bool:=
 if x.k=0 then(!decide (x.op<0))&&((!decide (12<x.op))&&((x.w==32||x.w==64)&&decide (x.d<10)))
 else if x.k=1 then aN x.sz&&decide (x.d<10)
 else if x.k=2 then aN x.sz
 else if x.k=3 then(!decide (x.op<0)) &&!decide (10<x.op)
 else if x.k=5 then(!decide (x.imm<0))&&decide (x.imm<16)
 else true
def cm (x y:Ins):Bool:=(x.k==y.k)&&((x.op==y.op)&&((x.w==y.w)&&((x.sz==y.sz)&&((x.br==y.br)&&((x.d==y.d)&&((x.s==y.s)&&((x.off==y.off)&&(x.imm==y.imm))))))))
def jm (x:Ins):Bool:=(!decide (x.k<0))&&((!decide (6<x.k))&&(cm x (bY x)&&((!decide (x.d<0))&&((!decide (10<x.d))&&((!decide (x.s<0))&&((!decide (10<x.s))&&((!decide (x.off < -32768))&&(decide (x.off<32768)&&((!decide (x.imm < -2147483648))&&(decide (x.imm<2147483648)&&cn x))))))))))
theorem aY (x:Ins):imay x=jm x:=by
 obtain⟨k,op,w,sz,br,d,s,off,imm⟩:=x
 by_cases h0:k=0
 ·subst h0
  by_cases h8:op=8
  ·subst h8
   cases br<;>(rw[ao];simp[imay,jm,eN,fy,cp,immz,cm,bY,cn];try omega)
  ·cases br<;>(rw[ao];simp[imay,jm,eN,fy,cp,immz,cm,bY,cn,h8];try omega)
 by_cases h1:k=1
 ·subst h1
  cases br<;>(rw[ao];simp[imay,jm,eN,fy,cp,immz,cm,bY,cn];try (cases aN sz<;>simp<;>omega))
 by_cases h2:k=2
 ·subst h2
  cases br<;>(rw[ao];simp[imay,jm,eN,fy,cp,immz,cm,bY,cn];try (cases aN sz<;>simp<;>omega))
 by_cases h3:k=3
 ·subst h3
  cases br<;>(rw[ao];simp[imay,jm,eN,fy,cp,immz,cm,bY,cn];try omega)
 by_cases h4:k=4
 ·subst h4
  cases br<;>(rw[ao];simp[imay,jm,eN,fy,cp,immz,cm,bY,cn];try omega)
 by_cases h5:k=5
 ·subst h5
  cases br<;>(rw[ao];simp[imay,jm,eN,fy,cp,immz,cm,bY,cn];try omega)
 by_cases h6:k=6
 ·subst h6
  cases br<;>(rw[ao];simp[imay,jm,eN,fy,cp,immz,cm,bY,cn];try omega)
 ·have:¬(0<=k/\k<=6):=by omega
  rw[ao]
  simp[imay,jm,cp,h0,h1,h2,h3,h4,h5,h6]
  omega
def alU (n:Int):Int:=opI .shl .i64 1 (IntKind.u64.wrap n)
theorem dl {n:Int} (h:0<=n/\n<=10):alU n=bit1 n:=by
 unfold alU bit1
 rw[bc,Int.emod_eq_of_lt (by omega) (by omega)]
theorem alw {p:Prog} (hl:p.l.length<=maxLen):p.last=(p.l.length:Int)-1:=by
 unfold Prog.last
 show IntKind.i64.wrap ((p.l.length:Int)-1)=_
 rw[aL];simp[maxLen] at hl;omega
theorem fC (n:Int):opI .or .i64 0 (bit1 n)=bit1 n:=by
 have h:inK .i64 (bit1 n)=true:=mw _ _
 rw[xj]
 have:bvI 0 ||| bvI (bit1 n)=bvI (bit1 n):=by simp[bvI]
 rw[this,aiK h]
theorem dO (n:Int):opI .or .i64 (bit1 n) 0=bit1 n:=by
 have h:inK .i64 (bit1 n)=true:=mw _ _
 rw[xj]
 have:bvI (bit1 n) ||| bvI 0=bvI (bit1 n):=by simp[bvI]
 rw[this,aiK h]
def de:=And.intro Ins.eta (Prog.eta)
theorem oY {p q q2:Prop} (k:q2) (h:p->q=q2:=by intro e;(try simp only[e,de,ai,-eq_self]);rfl):p->q:=fun e=>(h e).symm▸k
def akg:List (Nat×TI):=[(3,tiq3),
 (4,tiq4),
 (37,dS),
 (39,lO),
 (105,jd)]
theorem fg:∀t i,(t,i)∈akg->TIok Tryz.prog t i:=aV (fac (z:=iX) ⟨gQ,eD⟩ fa0) fa0 (by kernel_rfl)
def c_jsz:Cd:=⟨60,[.one (.int .i8)],[.one .bool],rdZ fun n _=>[.z (b2i (aN n))],T0⟩
def ahL:Tr:=
(.br (.eq (.var 0) (.lit 1))
 zlT
(.br (.eq (.var 0) (.lit 2))
 zlT
(.br (.eq (.var 0) (.lit 4))
 zlT
(.leaf (.consb (.eq (.var 0) (.lit 8)) .nil)))))
theorem apq:c_jsz.Ok Tryz.prog:=
 oks ahL [.int .i8] fg ol0 Tryz.func60<|fun n hn hp U g=>by
 simp only[gS1,Nat.reduceAdd] at g
 simp only[ahL,spQ,rdZ,rdB,rdL,c_jsz,simQ,ab,S1,Nat.reduceSub,Nat.reduceAdd,-eq_self,de,ai,g]
 constructor<;>intro c0
 ·(refine zb ?_;unfold aN;rw[ao];simp at *;omega)
 constructor<;>intro c1
 ·(refine zb ?_;unfold aN;rw[ao];simp at *;omega)
 constructor<;>intro c2
 ·(refine zb ?_;unfold aN;rw[ao];simp at *;omega)
 ·(refine zb ?_;unfold aN;rw[ao];simp at *;omega)
def c_jfields:Cd:=⟨59,[.agg kIns],[.agg kIns],rd_Ins fun x _=>d_Ins (bY x) [],T0⟩
def aiT:Tr:=(.leaf (.cons (.var 0) (.cons (.lit 0) (.cons (.lit 0) (.cons (.var 3) (.consb (.tt false) (.vs 5 3 (.cons (.lit 0) .nil))))))))
def oO:Tr:=
(.br (.eq (.var 0) (.lit 0))
(.br (.bw 4)
(.br (.eq (.var 1) (.lit 8))
(.leaf (.vs 0 3 (.cons (.lit 0) (.consb (.not (.eq (.var 1) (.lit 8))) (.cons (.var 5) (.zs [0,0,0] .nil))))))
(.leaf (.vs 0 3 (.cons (.lit 0) (.consb (.not (.eq (.var 1) (.lit 8))) (.vs 5 2 (.cons (.lit 0) (.cons (.lit 0) .nil))))))))
(.br (.eq (.var 1) (.lit 8))
(.leaf (.vs 0 3 (.cons (.lit 0) (.consb (.tt false) (.cons (.var 5) (.zs [0,0,0] .nil))))))
(.leaf (.vs 0 3 (.cons (.lit 0) (.consb (.tt false) (.cons (.var 5) (.cons (.lit 0) (.cons (.lit 0) (.cons (.var 8) .nil))))))))))
(.br (.eq (.var 0) (.lit 1))
 aiT
(.br (.eq (.var 0) (.lit 2))
 aiT
(.br (.eq (.var 0) (.lit 3))
(.br (.bw 4)
(.leaf (.vs 0 2 (.cons (.lit 0) (.cons (.lit 0) (.consb (.bw 4) (.vs 5 3 (.cons (.lit 0) .nil)))))))
(.leaf (.vs 0 2 (.cons (.lit 0) (.cons (.lit 0) (.consb (.bw 4) (.cons (.var 5) (.cons (.lit 0) (.vs 7 2 .nil)))))))))
(.br (.eq (.var 0) (.lit 4))
(.leaf (.cons (.var 0) (.zs [0,0,0] (.consb (.tt false) (.cons (.lit 0) (.cons (.lit 0) (.cons (.var 7) (.cons (.lit 0) .nil))))))))
(.br (.eq (.var 0) (.lit 5))
(.leaf (.cons (.var 0) (.zs [0,0,0] (.consb (.tt false) (.zs [0,0,0] (.cons (.var 8) .nil))))))
(.leaf (.cons (.var 0) (.zs [0,0,0] (.consb (.tt false) (.zs [0,0,0,0] .nil)))))))))))
theorem ad1:c_jfields.Ok Tryz.prog:=
 oks oO (v_Ins []) fg ol0 Tryz.func59<|eG fun x hx hp U g=>by
 simp only[dd,gS1,Nat.reduceAdd] at g
 simp only[oO,aiT,spQ,rdZ,rdB,rdL,c_jfields,dd,simQ,ab,S1,Nat.reduceSub,Nat.reduceAdd,-eq_self,de,ai,g]
 constructor<;>intro c0
 constructor<;>intro c1
 constructor<;>intro c2
 ·(unfold bY;simp_all)
 ·(unfold bY;simp_all)
 constructor<;>intro c3
 ·(unfold bY;simp_all)
 ·(unfold bY;simp_all)
 constructor<;>intro c4
 ·(unfold bY;simp_all)
 constructor<;>intro c5
 ·(unfold bY;simp_all)
 constructor<;>intro c6
 constructor<;>intro c7
 ·(unfold bY;simp_all)
 ·(unfold bY;simp_all)
 constructor<;>intro c8
 ·(unfold bY;simp_all)
 constructor<;>intro c9
 ·(unfold bY;simp_all)
 ·(unfold bY;simp_all)
def c_jmay:Cd:=⟨23,[.agg kIns],[.one .bool],rd_Ins fun x _=>[.z (b2i (imay x))],T0⟩
def acE:Tr:=
(.br (.lt (.var 0) (.lit 0))
 zlF
(.br (.lt (.lit 6) (.var 0))
 zlF
(.call 1 (kIns) (.vs 0 4 (.consb (.bw 4) (.vs 5 4 .nil))) 9
(.br (.eq (.var 0) (.var 9))
(.br (.eq (.var 1) (.var 10))
(.br (.eq (.var 2) (.var 11))
(.br (.eq (.var 3) (.var 12))
(.br (.beq (.bw 4) (.bw 13))
(.br (.eq (.var 5) (.var 14))
(.br (.eq (.var 6) (.var 15))
(.br (.eq (.var 7) (.var 16))
(.br (.eq (.var 8) (.var 17))
(.br (.lt (.var 5) (.lit 0))
 zlF
(.br (.lt (.lit 10) (.var 5))
 zlF
(.br (.lt (.var 6) (.lit 0))
 zlF
(.br (.lt (.lit 10) (.var 6))
 zlF
(.br (.lt (.var 7) (.lit (-32768)))
 zlF
(.br (.lt (.var 7) (.lit 32768))
(.br (.lt (.var 8) (.lit (-2147483648)))
 zlF
(.br (.lt (.var 8) (.lit 2147483648))
(.br (.eq (.var 0) (.lit 0))
(.br (.lt (.var 1) (.lit 0))
 zlF
(.br (.lt (.lit 12) (.var 1))
 zlF
(.br (.eq (.var 2) (.lit 32))
(.leaf (.consb (.lt (.var 5) (.lit 10)) .nil))
(.br (.eq (.var 2) (.lit 64))
(.leaf (.consb (.lt (.var 5) (.lit 10)) .nil))
 zlF))))
(.br (.eq (.var 0) (.lit 1))
(.call 0 [.bool] (.cons (.var 3) .nil) 18
(.br (.bw 18)
(.leaf (.consb (.lt (.var 5) (.lit 10)) .nil))
 zlF))
(.br (.eq (.var 0) (.lit 2))
(.call 0 [.bool] (.cons (.var 3) .nil) 18
(.leaf (.consb (.bw 18) .nil)))
(.br (.eq (.var 0) (.lit 3))
(.br (.lt (.var 1) (.lit 0))
 zlF
(.leaf (.consb (.not (.lt (.lit 10) (.var 1))) .nil)))
(.br (.eq (.var 0) (.lit 5))
(.br (.lt (.var 8) (.lit 0))
 zlF
(.leaf (.consb (.lt (.var 8) (.lit 16)) .nil)))
 zlT)))))
 zlF))
 zlF))))))
 zlF)
 zlF)
 zlF)
 zlF)
 zlF)
 zlF)
 zlF)
 zlF)
 zlF))))
theorem ad0:c_jmay.Ok Tryz.prog:=
 oks acE (v_Ins []) fg (olc apq<|olc ad1 ol0) Tryz.func23<|eG fun x hx hp U g=>by
 simp only[dd,gS1,Nat.reduceAdd] at g
 simp only[acE,spQ,c_jsz,c_jfields,rdZ,rdB,rdL,c_jmay,dd,simQ,ab,S1,Nat.reduceSub,Nat.reduceAdd,-eq_self,de,ai,g]
 constructor<;>intro c0
 ·simp only[aY,jm,cm,c0,Bool.not_true,Bool.not_false,Bool.true_and,Bool.and_true,aO,aK,Bool.true_or,Bool.false_or,Bool.or_true,aq]<;>simp only[cn,c0,reduceIte,Int.reduceEq,Bool.not_true,Bool.not_false,Bool.true_and,Bool.and_true,aO,aK,Bool.true_or,Bool.false_or,Bool.or_true,aq]
 constructor<;>intro c1
 ·simp only[aY,jm,cm,c0,c1,Bool.not_true,Bool.not_false,Bool.true_and,Bool.and_true,aO,aK,Bool.true_or,Bool.false_or,Bool.or_true,aq]<;>simp only[cn,c0,c1,reduceIte,Int.reduceEq,Bool.not_true,Bool.not_false,Bool.true_and,Bool.and_true,aO,aK,Bool.true_or,Bool.false_or,Bool.or_true,aq]
 refine oY ?_
 constructor<;>intro c2
 constructor<;>intro c3
 constructor<;>intro c4
 constructor<;>intro c5
 constructor<;>intro c6
 constructor<;>intro c7
 constructor<;>intro c8
 constructor<;>intro c9
 constructor<;>intro c10
 constructor<;>intro c11
 ·simp only[aY,jm,cm,c0,c1,c2,c3,c4,c5,c6,c7,c8,c9,c10,c11,Bool.not_true,Bool.not_false,Bool.true_and,Bool.and_true,aO,aK,Bool.true_or,Bool.false_or,Bool.or_true,aq]<;>simp only[cn,c8,c9,c10,c11,reduceIte,Int.reduceEq,Bool.not_true,Bool.not_false,Bool.true_and,Bool.and_true,aO,aK,Bool.true_or,Bool.false_or,Bool.or_true,aq]
 constructor<;>intro c12
 ·simp only[aY,jm,cm,c0,c1,c2,c3,c4,c5,c6,c7,c8,c9,c10,c11,c12,Bool.not_true,Bool.not_false,Bool.true_and,Bool.and_true,aO,aK,Bool.true_or,Bool.false_or,Bool.or_true,aq]<;>simp only[cn,c9,c10,c11,c12,reduceIte,Int.reduceEq,Bool.not_true,Bool.not_false,Bool.true_and,Bool.and_true,aO,aK,Bool.true_or,Bool.false_or,Bool.or_true,aq]
 constructor<;>intro c13
 ·simp only[aY,jm,cm,c0,c1,c2,c3,c4,c5,c6,c7,c8,c9,c10,c11,c12,c13,Bool.not_true,Bool.not_false,Bool.true_and,Bool.and_true,aO,aK,Bool.true_or,Bool.false_or,Bool.or_true,aq]<;>simp only[cn,c10,c11,c12,c13,reduceIte,Int.reduceEq,Bool.not_true,Bool.not_false,Bool.true_and,Bool.and_true,aO,aK,Bool.true_or,Bool.false_or,Bool.or_true,aq]
 constructor<;>intro c14
 ·simp only[aY,jm,cm,c0,c1,c2,c3,c4,c5,c6,c7,c8,c9,c10,c11,c12,c13,c14,Bool.not_true,Bool.not_false,Bool.true_and,Bool.and_true,aO,aK,Bool.true_or,Bool.false_or,Bool.or_true,aq]<;>simp only[cn,c11,c12,c13,c14,reduceIte,Int.reduceEq,Bool.not_true,Bool.not_false,Bool.true_and,Bool.and_true,aO,aK,Bool.true_or,Bool.false_or,Bool.or_true,aq]
 constructor<;>intro c15
 ·simp only[aY,jm,cm,c0,c1,c2,c3,c4,c5,c6,c7,c8,c9,c10,c11,c12,c13,c14,c15,Bool.not_true,Bool.not_false,Bool.true_and,Bool.and_true,aO,aK,Bool.true_or,Bool.false_or,Bool.or_true,aq]<;>simp only[cn,c12,c13,c14,c15,reduceIte,Int.reduceEq,Bool.not_true,Bool.not_false,Bool.true_and,Bool.and_true,aO,aK,Bool.true_or,Bool.false_or,Bool.or_true,aq]
 constructor<;>intro c16
 constructor<;>intro c17
 ·simp only[aY,jm,cm,c0,c1,c2,c3,c4,c5,c6,c7,c8,c9,c10,c11,c12,c13,c14,c15,c16,c17,Bool.not_true,Bool.not_false,Bool.true_and,Bool.and_true,aO,aK,Bool.true_or,Bool.false_or,Bool.or_true,aq]<;>simp only[cn,c14,c15,c16,c17,reduceIte,Int.reduceEq,Bool.not_true,Bool.not_false,Bool.true_and,Bool.and_true,aO,aK,Bool.true_or,Bool.false_or,Bool.or_true,aq]
 constructor<;>intro c18
 constructor<;>intro c19
 constructor<;>intro c20
 ·simp only[aY,jm,cm,c0,c1,c2,c3,c4,c5,c6,c7,c8,c9,c10,c11,c12,c13,c14,c15,c16,c17,c18,c19,c20,Bool.not_true,Bool.not_false,Bool.true_and,Bool.and_true,aO,aK,Bool.true_or,Bool.false_or,Bool.or_true,aq]<;>simp only[cn,eqI c19,c17,c18,c19,c20,reduceIte,Int.reduceEq,Bool.not_true,Bool.not_false,Bool.true_and,Bool.and_true,aO,aK,Bool.true_or,Bool.false_or,Bool.or_true,aq]
 constructor<;>intro c21
 ·simp only[aY,jm,cm,c0,c1,c2,c3,c4,c5,c6,c7,c8,c9,c10,c11,c12,c13,c14,c15,c16,c17,c18,c19,c20,c21,Bool.not_true,Bool.not_false,Bool.true_and,Bool.and_true,aO,aK,Bool.true_or,Bool.false_or,Bool.or_true,aq]<;>simp only[cn,eqI c19,c18,c19,c20,c21,reduceIte,Int.reduceEq,Bool.not_true,Bool.not_false,Bool.true_and,Bool.and_true,aO,aK,Bool.true_or,Bool.false_or,Bool.or_true,aq]
 constructor<;>intro c22
 ·simp only[aY,jm,cm,c0,c1,c2,c3,c4,c5,c6,c7,c8,c9,c10,c11,c12,c13,c14,c15,c16,c17,c18,c19,c20,c21,c22,Bool.not_true,Bool.not_false,Bool.true_and,Bool.and_true,aO,aK,Bool.true_or,Bool.false_or,Bool.or_true,aq]<;>simp only[cn,eqI c19,c19,c20,c21,c22,reduceIte,Int.reduceEq,Bool.not_true,Bool.not_false,Bool.true_and,Bool.and_true,aO,aK,Bool.true_or,Bool.false_or,Bool.or_true,aq]
 constructor<;>intro c23
 ·simp only[aY,jm,cm,c0,c1,c2,c3,c4,c5,c6,c7,c8,c9,c10,c11,c12,c13,c14,c15,c16,c17,c18,c19,c20,c21,c22,c23,Bool.not_true,Bool.not_false,Bool.true_and,Bool.and_true,aO,aK,Bool.true_or,Bool.false_or,Bool.or_true,aq]<;>simp only[cn,eqI c19,c20,c21,c22,c23,reduceIte,Int.reduceEq,Bool.not_true,Bool.not_false,Bool.true_and,Bool.and_true,aO,aK,Bool.true_or,Bool.false_or,Bool.or_true,aq]
 ·simp only[aY,jm,cm,c0,c1,c2,c3,c4,c5,c6,c7,c8,c9,c10,c11,c12,c13,c14,c15,c16,c17,c18,c19,c20,c21,c22,c23,Bool.not_true,Bool.not_false,Bool.true_and,Bool.and_true,aO,aK,Bool.true_or,Bool.false_or,Bool.or_true,aq]<;>simp only[cn,eqI c19,c20,c21,c22,c23,reduceIte,Int.reduceEq,Bool.not_true,Bool.not_false,Bool.true_and,Bool.and_true,aO,aK,Bool.true_or,Bool.false_or,Bool.or_true,aq]
 constructor<;>intro c24
 refine oY ?_
 constructor<;>intro c25
 ·simp only[aY,jm,cm,c0,c1,c2,c3,c4,c5,c6,c7,c8,c9,c10,c11,c12,c13,c14,c15,c16,c17,c18,c19,c24,c25,Bool.not_true,Bool.not_false,Bool.true_and,Bool.and_true,aO,aK,Bool.true_or,Bool.false_or,Bool.or_true,aq]<;>simp only[cn,neI c19,eqI c24,c18,c19,c24,c25,reduceIte,Int.reduceEq,Bool.not_true,Bool.not_false,Bool.true_and,Bool.and_true,aO,aK,Bool.true_or,Bool.false_or,Bool.or_true,aq]
 ·simp only[aY,jm,cm,c0,c1,c2,c3,c4,c5,c6,c7,c8,c9,c10,c11,c12,c13,c14,c15,c16,c17,c18,c19,c24,c25,Bool.not_true,Bool.not_false,Bool.true_and,Bool.and_true,aO,aK,Bool.true_or,Bool.false_or,Bool.or_true,aq]<;>simp only[cn,neI c19,eqI c24,c18,c19,c24,c25,reduceIte,Int.reduceEq,Bool.not_true,Bool.not_false,Bool.true_and,Bool.and_true,aO,aK,Bool.true_or,Bool.false_or,Bool.or_true,aq]
 constructor<;>intro c26
 refine oY ?_
 ·simp only[aY,jm,cm,c0,c1,c2,c3,c4,c5,c6,c7,c8,c9,c10,c11,c12,c13,c14,c15,c16,c17,c18,c19,c24,c26,Bool.not_true,Bool.not_false,Bool.true_and,Bool.and_true,aO,aK,Bool.true_or,Bool.false_or,Bool.or_true,aq]<;>simp only[cn,neI c19,neI c24,eqI c26,c18,c19,c24,c26,reduceIte,Int.reduceEq,Bool.not_true,Bool.not_false,Bool.true_and,Bool.and_true,aO,aK,Bool.true_or,Bool.false_or,Bool.or_true,aq]
 constructor<;>intro c27
 constructor<;>intro c28
 ·simp only[aY,jm,cm,c0,c1,c2,c3,c4,c5,c6,c7,c8,c9,c10,c11,c12,c13,c14,c15,c16,c17,c18,c19,c24,c26,c27,c28,Bool.not_true,Bool.not_false,Bool.true_and,Bool.and_true,aO,aK,Bool.true_or,Bool.false_or,Bool.or_true,aq]<;>simp only[cn,neI c19,neI c24,neI c26,eqI c27,c24,c26,c27,c28,reduceIte,Int.reduceEq,Bool.not_true,Bool.not_false,Bool.true_and,Bool.and_true,aO,aK,Bool.true_or,Bool.false_or,Bool.or_true,aq]
 ·simp only[aY,jm,cm,c0,c1,c2,c3,c4,c5,c6,c7,c8,c9,c10,c11,c12,c13,c14,c15,c16,c17,c18,c19,c24,c26,c27,c28,Bool.not_true,Bool.not_false,Bool.true_and,Bool.and_true,aO,aK,Bool.true_or,Bool.false_or,Bool.or_true,aq]<;>simp only[cn,neI c19,neI c24,neI c26,eqI c27,c24,c26,c27,c28,reduceIte,Int.reduceEq,Bool.not_true,Bool.not_false,Bool.true_and,Bool.and_true,aO,aK,Bool.true_or,Bool.false_or,Bool.or_true,aq]
 constructor<;>intro c29
 constructor<;>intro c30
 ·simp only[aY,jm,cm,c0,c1,c2,c3,c4,c5,c6,c7,c8,c9,c10,c11,c12,c13,c14,c15,c16,c17,c18,c19,c24,c26,c27,c29,c30,Bool.not_true,Bool.not_false,Bool.true_and,Bool.and_true,aO,aK,Bool.true_or,Bool.false_or,Bool.or_true,aq]<;>simp only[cn,neI c19,neI c24,neI c26,neI c27,eqI c29,c26,c27,c29,c30,reduceIte,Int.reduceEq,Bool.not_true,Bool.not_false,Bool.true_and,Bool.and_true,aO,aK,Bool.true_or,Bool.false_or,Bool.or_true,aq]
 ·simp only[aY,jm,cm,c0,c1,c2,c3,c4,c5,c6,c7,c8,c9,c10,c11,c12,c13,c14,c15,c16,c17,c18,c19,c24,c26,c27,c29,c30,Bool.not_true,Bool.not_false,Bool.true_and,Bool.and_true,aO,aK,Bool.true_or,Bool.false_or,Bool.or_true,aq]<;>simp only[cn,neI c19,neI c24,neI c26,neI c27,eqI c29,c26,c27,c29,c30,reduceIte,Int.reduceEq,Bool.not_true,Bool.not_false,Bool.true_and,Bool.and_true,aO,aK,Bool.true_or,Bool.false_or,Bool.or_true,aq]
 ·simp only[aY,jm,cm,c0,c1,c2,c3,c4,c5,c6,c7,c8,c9,c10,c11,c12,c13,c14,c15,c16,c17,c18,c19,c24,c26,c27,c29,Bool.not_true,Bool.not_false,Bool.true_and,Bool.and_true,aO,aK,Bool.true_or,Bool.false_or,Bool.or_true,aq]<;>simp only[cn,neI c19,neI c24,neI c26,neI c27,neI c29,c24,c26,c27,c29,reduceIte,Int.reduceEq,Bool.not_true,Bool.not_false,Bool.true_and,Bool.and_true,aO,aK,Bool.true_or,Bool.false_or,Bool.or_true,aq]
 ·simp only[aY,jm,cm,c0,c1,c2,c3,c4,c5,c6,c7,c8,c9,c10,c11,c12,c13,c14,c15,c16,c17,c18,Bool.not_true,Bool.not_false,Bool.true_and,Bool.and_true,aO,aK,Bool.true_or,Bool.false_or,Bool.or_true,aq]<;>simp only[cn,c15,c16,c17,c18,reduceIte,Int.reduceEq,Bool.not_true,Bool.not_false,Bool.true_and,Bool.and_true,aO,aK,Bool.true_or,Bool.false_or,Bool.or_true,aq]
 ·simp only[aY,jm,cm,c0,c1,c2,c3,c4,c5,c6,c7,c8,c9,c10,c11,c12,c13,c14,c15,c16,Bool.not_true,Bool.not_false,Bool.true_and,Bool.and_true,aO,aK,Bool.true_or,Bool.false_or,Bool.or_true,aq]<;>simp only[cn,c13,c14,c15,c16,reduceIte,Int.reduceEq,Bool.not_true,Bool.not_false,Bool.true_and,Bool.and_true,aO,aK,Bool.true_or,Bool.false_or,Bool.or_true,aq]
 ·simp only[aY,jm,cm,c0,c1,c2,c3,c4,c5,c6,c7,c8,c9,c10,Bool.not_true,Bool.not_false,Bool.true_and,Bool.and_true,aO,aK,Bool.true_or,Bool.false_or,Bool.or_true,aq]<;>simp only[cn,c7,c8,c9,c10,reduceIte,Int.reduceEq,Bool.not_true,Bool.not_false,Bool.true_and,Bool.and_true,aO,aK,Bool.true_or,Bool.false_or,Bool.or_true,aq]
 ·simp only[aY,jm,cm,c0,c1,c2,c3,c4,c5,c6,c7,c8,c9,Bool.not_true,Bool.not_false,Bool.true_and,Bool.and_true,aO,aK,Bool.true_or,Bool.false_or,Bool.or_true,aq]<;>simp only[cn,c6,c7,c8,c9,reduceIte,Int.reduceEq,Bool.not_true,Bool.not_false,Bool.true_and,Bool.and_true,aO,aK,Bool.true_or,Bool.false_or,Bool.or_true,aq]
 ·simp only[aY,jm,cm,c0,c1,c2,c3,c4,c5,c6,c7,c8,Bool.not_true,Bool.not_false,Bool.true_and,Bool.and_true,aO,aK,Bool.true_or,Bool.false_or,Bool.or_true,aq]<;>simp only[cn,c5,c6,c7,c8,reduceIte,Int.reduceEq,Bool.not_true,Bool.not_false,Bool.true_and,Bool.and_true,aO,aK,Bool.true_or,Bool.false_or,Bool.or_true,aq]
 ·simp only[aY,jm,cm,c0,c1,c2,c3,c4,c5,c6,c7,Bool.not_true,Bool.not_false,Bool.true_and,Bool.and_true,aO,aK,Bool.true_or,Bool.false_or,Bool.or_true,aq]<;>simp only[cn,c4,c5,c6,c7,reduceIte,Int.reduceEq,Bool.not_true,Bool.not_false,Bool.true_and,Bool.and_true,aO,aK,Bool.true_or,Bool.false_or,Bool.or_true,aq]
 ·simp only[aY,jm,cm,c0,c1,c2,c3,c4,c5,c6,Bool.not_true,Bool.not_false,Bool.true_and,Bool.and_true,aO,aK,Bool.true_or,Bool.false_or,Bool.or_true,aq]<;>simp only[cn,c3,c4,c5,c6,reduceIte,Int.reduceEq,Bool.not_true,Bool.not_false,Bool.true_and,Bool.and_true,aO,aK,Bool.true_or,Bool.false_or,Bool.or_true,aq]
 ·simp only[aY,jm,cm,c0,c1,c2,c3,c4,c5,Bool.not_true,Bool.not_false,Bool.true_and,Bool.and_true,aO,aK,Bool.true_or,Bool.false_or,Bool.or_true,aq]<;>simp only[cn,c2,c3,c4,c5,reduceIte,Int.reduceEq,Bool.not_true,Bool.not_false,Bool.true_and,Bool.and_true,aO,aK,Bool.true_or,Bool.false_or,Bool.or_true,aq]
 ·simp only[aY,jm,cm,c0,c1,c2,c3,c4,Bool.not_true,Bool.not_false,Bool.true_and,Bool.and_true,aO,aK,Bool.true_or,Bool.false_or,Bool.or_true,aq]<;>simp only[cn,c1,c2,c3,c4,reduceIte,Int.reduceEq,Bool.not_true,Bool.not_false,Bool.true_and,Bool.and_true,aO,aK,Bool.true_or,Bool.false_or,Bool.or_true,aq]
 ·simp only[aY,jm,cm,c0,c1,c2,c3,Bool.not_true,Bool.not_false,Bool.true_and,Bool.and_true,aO,aK,Bool.true_or,Bool.false_or,Bool.or_true,aq]<;>simp only[cn,c0,c1,c2,c3,reduceIte,Int.reduceEq,Bool.not_true,Bool.not_false,Bool.true_and,Bool.and_true,aO,aK,Bool.true_or,Bool.false_or,Bool.or_true,aq]
 ·simp only[aY,jm,cm,c0,c1,c2,Bool.not_true,Bool.not_false,Bool.true_and,Bool.and_true,aO,aK,Bool.true_or,Bool.false_or,Bool.or_true,aq]<;>simp only[cn,c0,c1,c2,reduceIte,Int.reduceEq,Bool.not_true,Bool.not_false,Bool.true_and,Bool.and_true,aO,aK,Bool.true_or,Bool.false_or,Bool.or_true,aq]
def c_jtgt:Cd:=⟨46,[.one (.int .i64),.agg kIns],[.one (.int .i64),.one .bool],rdZ fun i=>rd_Ins fun x _=>[.z ((itgt i x).1),.z (b2i ((itgt i x).2))],T0⟩
def yq:Tr:=(.leaf (.cons (.lit 0) (.consb (.tt false) .nil)))
def aiS:Tr:=(.br (.lt (.var 0) (.lit (-1099511627776)))
 yq
(.br (.lt (.lit 1099511627776) (.var 0))
 yq
(.br (.lt (.var 8) (.lit (-1099511627776)))
 yq
(.br (.lt (.lit 1099511627776) (.var 8))
 yq
(.leaf (.cons (.bin .add .i64 (.bin .add .i64 (.var 0) (.lit 1)) (.var 8)) (.consb (.tt true) .nil)))))))
def acy:Tr:=
(.br (.eq (.var 1) (.lit 3))
 aiS
(.br (.eq (.var 1) (.lit 4))
 aiS
 yq))
theorem aim:c_jtgt.Ok Tryz.prog:=
 oks acy (.int .i64::v_Ins []) fg ol0 Tryz.func46<|fun i hi=>eG fun x hx hp U g=>by
 simp only[dd,gS1,Nat.reduceAdd] at g
 simp only[acy,aiS,yq,spQ,rdZ,rdB,rdL,c_jtgt,dd,simQ,ab,S1,Nat.reduceSub,Nat.reduceAdd,-eq_self,de,ai,g]
 constructor<;>intro c0
 constructor<;>intro c1
 ·rw[o8 (by have:=thm3 c1;simp;omega)];try rfl
 constructor<;>intro c2
 ·rw[o8 (by have:=thm3 c2;simp;omega)];try rfl
 constructor<;>intro c3
 ·rw[o7 (by have:=thm3 c3;simp;omega)];try rfl
 constructor<;>intro c4
 ·rw[o7 (by have:=thm3 c4;simp;omega)];try rfl
 ·rw[tq (.inl (eqI c0)) (by have q1:=thm2 c1;have q2:=thm2 c2;simp;omega) (by have q1:=thm2 c3;have q2:=thm2 c4;simp;omega)];try rfl
 constructor<;>intro c5
 constructor<;>intro c6
 ·rw[o8 (by have:=thm3 c6;simp;omega)];try rfl
 constructor<;>intro c7
 ·rw[o8 (by have:=thm3 c7;simp;omega)];try rfl
 constructor<;>intro c8
 ·rw[o7 (by have:=thm3 c8;simp;omega)];try rfl
 constructor<;>intro c9
 ·rw[o7 (by have:=thm3 c9;simp;omega)];try rfl
 ·rw[tq (.inr (eqI c5)) (by have q1:=thm2 c6;have q2:=thm2 c7;simp;omega) (by have q1:=thm2 c8;have q2:=thm2 c9;simp;omega)];try rfl
 ·rw[xK c0 c5];try rfl
def c_jargs:Cd:=⟨58,[.one (.int .i64)],[.one (.int .i64)],rdZ fun n _=>[.z (jF n)],T0⟩
def wG:Tr:=
(.br (.lt (.var 0) (.lit 0))
(.leaf (.cons (.lit 0) .nil))
(.br (.lt (.var 0) (.lit 16))
(.leaf (.cons (.bin .rem .i64 (.var 0) (.lit 6)) .nil))
(.leaf (.cons (.lit 0) .nil))))
theorem alO:c_jargs.Ok Tryz.prog:=
 oks wG [.int .i64] fg ol0 Tryz.func58<|fun n hn hp U g=>by
 simp only[gS1,Nat.reduceAdd] at g
 simp only[wG,spQ,rdZ,rdB,rdL,c_jargs,simQ,ab,S1,Nat.reduceSub,Nat.reduceAdd,-eq_self,de,ai,g]
 constructor<;>intro c0
 ·(unfold jF;simp_all<;>omega)
 constructor<;>intro c1
 ·(unfold jF;simp_all<;>omega)
 ·(unfold jF;simp_all<;>omega)
def c_jbit:Cd:=⟨57,[.one (.int .i8)],[.one (.int .i64)],rdZ fun n _=>[.z (alU n)],T0⟩
def acF:Tr:=
(.leaf (.cons (.bin .shl .i64 (.lit 1) (.conv .u64 (.var 0))) .nil))
theorem aio:c_jbit.Ok Tryz.prog:=
 oks acF [.int .i8] fg ol0 Tryz.func57<|fun n hn hp U g=>by
 simp only[gS1,Nat.reduceAdd] at g
 simp only[acF,spQ,rdZ,rdB,rdL,c_jbit,simQ,ab,S1,Nat.reduceSub,Nat.reduceAdd,-eq_self,de,ai,g]
 ·try rfl
def c_jwr:Cd:=⟨22,[.agg kIns],[.one (.int .i64)],rd_Ins fun x _=>[.z (vwr x)],T0⟩
def aiR:Tr:=(.call 1 [.int .i64] (.cons (.var 5) .nil) 10
(.leaf (.cons (.var 10) .nil)))
def ahK:Tr:=
(.call 0 [.bool] (.vs 0 4 (.consb (.bw 4) (.vs 5 4 .nil))) 9
(.br (.bw 9)
(.br (.eq (.var 0) (.lit 0))
 aiR
(.br (.eq (.var 0) (.lit 1))
 aiR
(.br (.eq (.var 0) (.lit 5))
(.leaf (.cons (.lit 63) .nil))
(.leaf (.cons (.lit 0) .nil)))))
(.leaf (.cons (.lit 0) .nil))))
theorem apo:c_jwr.Ok Tryz.prog:=
 oks ahK (v_Ins []) fg (olc ad0<|olc aio ol0) Tryz.func22<|eG fun x hx hp U g=>by
 simp only[dd,gS1,Nat.reduceAdd] at g
 simp only[ahK,aiR,spQ,c_jmay,c_jbit,rdZ,rdB,rdL,c_jwr,dd,simQ,ab,S1,Nat.reduceSub,Nat.reduceAdd,-eq_self,de,ai,g]
 refine oY ?_
 constructor<;>intro c0
 constructor<;>intro c1
 refine oY ?_
 ·(have q:=fun h=>cF (x:=x) h;unfold vwr;simp_all [dl])
 constructor<;>intro c2
 refine oY ?_
 ·(have q:=fun h=>cF (x:=x) h;unfold vwr;simp_all [dl])
 constructor<;>intro c3
 ·(have q:=fun h=>cF (x:=x) h;unfold vwr;simp_all [dl])
 ·(have q:=fun h=>cF (x:=x) h;unfold vwr;simp_all [dl])
 ·(have q:=fun h=>cF (x:=x) h;unfold vwr;simp_all [dl])
theorem ahY {p q q2:Prop} (k:q2) (h:p->q=q2:=by intro e;(try simp only[e,de,ai,-eq_self]);rfl):p->q:=fun e=>(h e).symm▸k
def aaM:List (Nat×TI):=[(3,tiq3),
 (4,tiq4),
 (22,rI),
 (24,rH),
 (37,dS),
 (39,lO)]
theorem aaz:∀t i,(t,i)∈aaM->TIok Tryz.prog t i:=aV (fac (z:=iX) ⟨gQ,eD⟩ fa0) fa0 (by kernel_rfl)
def jY:List Dt->Prop
 | [.z x0,.l x1]=>let f (pr:Prog):Prop:=pr.l.length<=maxLen;f ⟨x0,x1⟩
 | _=>False
def c_jcheck:Cd:=⟨42,[.agg kProg],[.one (.int .i64),.one (.int .i64)],rd_Prog fun pr _=>[.z ((cY pr).1),.z ((cY pr).2)],jY⟩
def zV:Tr:=(.next 0 (.cons (.bin .add .i64 (.var 2) (.lit 1)) .nil))
def aiQ:E:=(.get (.lw 1) (.bin .sub .i64 (.len (.lw 1)) (.lit 1)) 0)
def mZ:Tr:=
(.br (.lt (.var 0) (.lit 0))
(.leaf (.cons (.lit 0) (.cons (.lit 2) .nil)))
(.br (.lt (.lit 256) (.var 0))
(.leaf (.cons (.lit 0) (.cons (.lit 2) .nil)))
(.br (.lt (.len (.lw 1)) (.lit 1))
(.leaf (.cons (.lit 0) (.cons (.lit 3) .nil)))
(.br (.lt (.lit 64) (.len (.lw 1)))
(.leaf (.cons (.lit 0) (.cons (.lit 3) .nil)))
(.loop 0 2 [.int .i64] (.cons (.lit 0) .nil)
(.br (.lt (.var 2) (.len (.lw 1)))
(.br (.lt (.var 2) (.lit 0))
.panic
(.call 0 [.bool] (.ins (.lw 1) (.var 2) .nil) 3
(.br (.bw 3)
(.call 1 [.int .i64,.bool] (.cons (.var 2) (.ins (.lw 1) (.var 2) .nil)) 4
(.br (.bw 5)
(.br (.lt (.var 4) (.lit 0))
(.leaf (.cons (.var 2) (.cons (.lit 32) .nil)))
(.br (.lt (.var 4) (.len (.lw 1)))
 zV
(.leaf (.cons (.var 2) (.cons (.lit 32) .nil)))))
 zV))
(.leaf (.cons (.var 2) (.cons (.lit 31) .nil))))))
(.br (.lt (.bin .sub .i64 (.len (.lw 1)) (.lit 1)) (.lit 0))
.panic
(.br (.lt (.bin .sub .i64 (.len (.lw 1)) (.lit 1)) (.len (.lw 1)))
(.br (.eq aiQ (.lit 4))
(.leaf (.cons (.lit 0) (.cons (.lit 0) .nil)))
(.br (.eq aiQ (.lit 6))
(.leaf (.cons (.lit 0) (.cons (.lit 0) .nil)))
(.leaf (.cons (.bin .sub .i64 (.len (.lw 1)) (.lit 1)) (.cons (.lit 33) .nil)))))
.panic))))))))
theorem acN:bp aaM (smN 0 [c_jmay,c_jtgt]) [] [(7,[.tmpI 5 .i64]++tps [(2,2),(6,2),(25,34)])] [] 200 Tryz.f42 c_jcheck.a c_jcheck.r (tp c_jcheck.r) (v_Prog []) mZ:=trI (by kernel_rfl)
theorem agE:c_jcheck.Ok Tryz.prog:=
 okc (hl:=.inr (.inl ⟨(fun xs (h:jY xs) L hL=>by unfold jY at h;split at h<;>first | exact h.elim | (simp at hL;subst hL;exact h)),rfl⟩)) mZ (v_Prog []) aaz (olc ad0<|olc aim ol0) Tryz.func42 fn0 acN<|eW fun pr hpr hp U g=>by
 simp only[c_jcheck,jY,cC,b2i_one,de,ai] at hp
 have keepg:=g
 simp only[cC,dd,gS1,Nat.reduceAdd] at g
 simp only[mZ,aiQ,zV,spQ,c_jmay,c_jtgt,rdZ,rdB,rdL,c_jcheck,cC,dd,simQ,ab,S1,Nat.reduceSub,Nat.reduceAdd,-eq_self,de,ai,g]
 have hp:=hpr.2.len
 have hla:=alw hp
 constructor<;>intro c0
 ·rw[lr (by have q:=thm3 c0;simp;omega)];try rfl
 constructor<;>intro c1
 ·rw[lr (by have q:=thm3 c1;simp;omega)];try rfl
 constructor<;>intro c2
 ·rw[lm (by have q1:=thm2 c0;have q2:=thm2 c1;simp;omega) (by have q:=thm3 c2;rw[hla];simp;omega)];try rfl
 constructor<;>intro c3
 ·rw[lm (by have q1:=thm2 c0;have q2:=thm2 c1;simp;omega) (by have q:=thm3 c3;rw[hla];simp;omega)];try rfl
 have hC:(decide (0<=pr.ctx)&&decide (pr.ctx<=256))=true:=by have q1:=thm2 c0;have q2:=thm2 c1;simp;omega
 have hL:(decide (0<=pr.last)&&decide (pr.last<=63))=true:=by have q1:=thm2 c2;have q2:=thm2 c3;rw[hla];simp;omega
 refine⟨fun ds=>∃n:Nat,ds=[.z (n:Int)]/\n<=pr.l.length/\(scan pr pr.l.length 0=scan pr (pr.l.length-n) n),fun ds=>(pr.l.length-(dI ds 0).toNat),⟨0,rfl,Nat.zero_le _,rfl⟩,?_⟩
 intro U1 ha1 _ hi1
 obtain⟨n,hds,r1,r2⟩:=hi1
 simp only[thm5,Dt.z.injEq,and_true] at hds
 have g1:=(dF ha1 _ 0 (by decide)).trans keepg
 simp only[cC,dd,gS1,Nat.reduceAdd] at g1
 simp only[g1,hds,ai,-eq_self]
 constructor<;>intro c4
 constructor<;>intro c5
 ·exact absurd (thm3 c5) (by omega)
 refine ahY ?_
 constructor<;>intro c6
 refine ahY ?_
 constructor<;>intro c7
 constructor<;>intro c8
 ·rw[gl hC hL r2 (Int.ofNat_lt.1 (thm3 c4)) (ri c6 c7 (by have q:=thm3 c8;rw[hla];simp;omega))];try rfl
 constructor<;>intro c9
 ·exact⟨⟨n+1,by rw[addN (Int.ofNat_lt.1 (thm3 c4)) hp],(Int.ofNat_lt.1 (thm3 c4)),r2.trans (jX (Int.ofNat_lt.1 (thm3 c4)) (mE c6 (.inr (by have q1:=thm2 c8;have q2:=thm3 c9;rw[hla];simp;omega))))⟩,by rw[addN (Int.ofNat_lt.1 (thm3 c4)) hp];show pr.l.length-(((n+1:Nat):Int)).toNat<pr.l.length-((n:Int)).toNat;have:=(Int.ofNat_lt.1 (thm3 c4));omega⟩
 ·rw[gl hC hL r2 (Int.ofNat_lt.1 (thm3 c4)) (ri c6 c7 (by have q:=thm2 c9;rw[hla];simp;omega))];try rfl
 ·exact⟨⟨n+1,by rw[addN (Int.ofNat_lt.1 (thm3 c4)) hp],(Int.ofNat_lt.1 (thm3 c4)),r2.trans (jX (Int.ofNat_lt.1 (thm3 c4)) (mE c6 (.inl c7)))⟩,by rw[addN (Int.ofNat_lt.1 (thm3 c4)) hp];show pr.l.length-(((n+1:Nat):Int)).toNat<pr.l.length-((n:Int)).toNat;have:=(Int.ofNat_lt.1 (thm3 c4));omega⟩
 ·rw[gl hC hL r2 (Int.ofNat_lt.1 (thm3 c4)) (oq c6)];try rfl
 constructor<;>intro c10
 ·have q:=thm3 c10
  have w:opI .sub .i64 (pr.l.length:Int) 1=_:=hla
  rw[w] at q
  have q3:=thm2 c2
  omega
 constructor<;>intro c11
 constructor<;>intro c12
 ·rw[fc hC hL r2 (by have:=thm2 c4;omega),if_pos (.inl (eqI c12))];try rfl
 constructor<;>intro c13
 ·rw[fc hC hL r2 (by have:=thm2 c4;omega),if_pos (.inr (eqI c13))];try rfl
 ·rw[fc hC hL r2 (by have:=thm2 c4;omega),if_neg (fun h=>h.elim (neI c12) (neI c13))];try rfl
 ·have q:=thm2 c11
  have w:opI .sub .i64 (pr.l.length:Int) 1=_:=hla
  rw[w] at q
  have q3:=thm2 c2
  omega
theorem jl {p q q2:Prop} (k:q2) (h:p->q=q2:=by intro e;(try simp only[e,de,ai,-eq_self]);rfl):p->q:=fun e=>(h e).symm▸k
def aaL:List (Nat×TI):=[(3,tiq3),
 (4,tiq4),
 (37,dS),
 (39,lO),
 (105,jd)]
theorem aay:∀t i,(t,i)∈aaL->TIok Tryz.prog t i:=aV (fac (z:=iX) ⟨gQ,eD⟩ fa0) fa0 (by kernel_rfl)
def c_jrd:Cd:=⟨20,[.agg kIns],[.one (.int .i64)],rd_Ins fun x _=>[.z (vrd x)],T0⟩
def zT:Tr:=(.call 2 [.int .i64] (.cons (.var 6) .nil) 11
(.leaf (.cons (.bin .or .i64 (.var 10) (.var 11)) .nil)))
def zU:Tr:=(.call 2 [.int .i64] (.cons (.var 5) .nil) 10
(.br (.bw 4)
 zT
(.leaf (.cons (.var 10) .nil))))
def acA:Tr:=
(.call 0 [.bool] (.vs 0 4 (.consb (.bw 4) (.vs 5 4 .nil))) 9
(.br (.bw 9)
(.br (.eq (.var 0) (.lit 0))
(.br (.eq (.var 1) (.lit 11))
(.br (.bw 4)
(.call 2 [.int .i64] (.cons (.var 6) .nil) 10
(.leaf (.cons (.bin .or .i64 (.lit 0) (.var 10)) .nil)))
(.leaf (.cons (.lit 0) .nil)))
 zU)
(.br (.eq (.var 0) (.lit 1))
(.call 2 [.int .i64] (.cons (.var 6) .nil) 10
(.leaf (.cons (.var 10) .nil)))
(.br (.eq (.var 0) (.lit 2))
(.call 2 [.int .i64] (.cons (.var 5) .nil) 10
 zT)
(.br (.eq (.var 0) (.lit 3))
 zU
(.br (.eq (.var 0) (.lit 5))
(.loop 0 10 [.int .i64,.int .i64] (.cons (.lit 1) (.cons (.lit 0) .nil))
(.call 1 [.int .i64] (.cons (.var 8) .nil) 12
(.br (.lt (.var 12) (.var 10))
(.leaf (.cons (.var 11) .nil))
(.next 0 (.cons (.bin .add .i64 (.var 10) (.lit 1)) (.cons (.bin .or .i64 (.var 11) (.bin .shl .i64 (.lit 1) (.conv .u64 (.var 10)))) .nil))))))
(.br (.eq (.var 0) (.lit 6))
(.leaf (.cons (.lit 1) .nil))
(.leaf (.cons (.lit 0) .nil))))))))
(.leaf (.cons (.lit 0) .nil))))
theorem amL:bp aaL (smN 0 [c_jmay,c_jargs,c_jbit]) [] [(20,[.tmpI 4 .i64,.tmpI 3 .i64]++tps [(53,12)])] [] 200 Tryz.f20 c_jrd.a c_jrd.r (tp c_jrd.r) (v_Ins []) acA:=trI (by kernel_rfl)
theorem anO:c_jrd.Ok Tryz.prog:=
 okc acA (v_Ins []) aay (olc ad0<|olc alO<|olc aio ol0) Tryz.func20 fn0 amL<|eG fun x hx hp U g=>by
 have keepg:=g
 simp only[dd,gS1,Nat.reduceAdd] at g
 simp only[acA,zU,zT,spQ,c_jmay,c_jargs,c_jbit,rdZ,rdB,rdL,c_jrd,dd,simQ,ab,S1,Nat.reduceSub,Nat.reduceAdd,-eq_self,de,ai,g]
 refine jl ?_
 constructor<;>intro c0
 constructor<;>intro c1
 constructor<;>intro c2
 constructor<;>intro c3
 refine jl ?_
 ·(have q:=fun h=>cF (x:=x) h;have z:=fC;have z2:=dO;unfold vrd;simp_all [dl])
 ·(have q:=fun h=>cF (x:=x) h;have z:=fC;have z2:=dO;unfold vrd;simp_all [dl])
 refine jl ?_
 constructor<;>intro c4
 refine jl ?_
 ·(have q:=fun h=>cF (x:=x) h;have z:=fC;have z2:=dO;unfold vrd;simp_all [dl])
 ·(have q:=fun h=>cF (x:=x) h;have z:=fC;have z2:=dO;unfold vrd;simp_all [dl])
 constructor<;>intro c5
 refine jl ?_
 ·(have q:=fun h=>cF (x:=x) h;have z:=fC;have z2:=dO;unfold vrd;simp_all [dl])
 constructor<;>intro c6
 refine jl ?_
 refine jl ?_
 ·(have q:=fun h=>cF (x:=x) h;have z:=fC;have z2:=dO;unfold vrd;simp_all [dl])
 constructor<;>intro c7
 refine jl ?_
 constructor<;>intro c8
 refine jl ?_
 ·(have q:=fun h=>cF (x:=x) h;have z:=fC;have z2:=dO;unfold vrd;simp_all [dl])
 ·(have q:=fun h=>cF (x:=x) h;have z:=fC;have z2:=dO;unfold vrd;simp_all [dl])
 constructor<;>intro c9
 have hA:=iQ x.imm
 refine⟨fun ds=>∃k:Nat,ds=[.z (k:Int),.z ((2 ^ k-2:Nat):Int)]/\1<=k/\(k:Int)<=jF x.imm+1,fun ds=>7-(dI ds 0).toNat,⟨1,rfl,by omega,by omega⟩,?_⟩
 intro U1 ha1 _ hi1
 obtain⟨k,hds,h1,h2⟩:=hi1
 simp only[thm5,gS0,and_true] at hds
 obtain⟨k1_i10,k1_i11⟩:=hds
 have k1_i8:U1.i 8=x.imm:=(ha1 8 (by decide)).1.symm.trans (by simp only[g])
 simp only[k1_i8,k1_i10,k1_i11,-eq_self]
 refine jl ?_
 constructor<;>intro c10
 ·have q:=thm3 c10
  have hk:k=1\/k=2\/k=3\/k=4\/k=5\/k=6:=by omega
  have hk2:jF x.imm=(k:Int)-1:=by omega
  have h5:=eqI c9
  unfold vrd
  rw[if_pos c0,hk2]
  simp only[h5]
  rcases hk with rfl | rfl | rfl | rfl | rfl | rfl<;>rfl
 ·have q:=thm2 c10
  have hk:k=1\/k=2\/k=3\/k=4\/k=5:=by omega
  rcases hk with rfl | rfl | rfl | rfl | rfl
  ·exact⟨⟨2,rfl,by omega,by omega⟩,by decide⟩
  ·exact⟨⟨3,rfl,by omega,by omega⟩,by decide⟩
  ·exact⟨⟨4,rfl,by omega,by omega⟩,by decide⟩
  ·exact⟨⟨5,rfl,by omega,by omega⟩,by decide⟩
  ·exact⟨⟨6,rfl,by omega,by omega⟩,by decide⟩
 constructor<;>intro c11
 ·(have q:=fun h=>cF (x:=x) h;have z:=fC;have z2:=dO;unfold vrd;simp_all [dl])
 ·(have q:=fun h=>cF (x:=x) h;have z:=fC;have z2:=dO;unfold vrd;simp_all [dl])
 ·(have q:=fun h=>cF (x:=x) h;have z:=fC;have z2:=dO;unfold vrd;simp_all [dl])
structure Sta.wfs (a:Sta):Prop where
 r0:a.r0.s.wf
 r1:a.r1.s.wf
 r2:a.r2.s.wf
 r3:a.r3.s.wf
 r4:a.r4.s.wf
 r5:a.r5.s.wf
 r6:a.r6.s.wf
 r7:a.r7.s.wf
 r8:a.r8.s.wf
 r9:a.r9.s.wf
 r10:a.r10.s.wf
 s0:a.s0.s.wf
 s1:a.s1.s.wf
 s2:a.s2.s.wf
 s3:a.s3.s.wf
 s4:a.s4.s.wf
 s5:a.s5.s.wf
 s6:a.s6.s.wf
 s7:a.s7.s.wf
theorem afm {s:Sta} {P:Ty->Prop} (h0:P s.r0) (h1:P s.r1) (h2:P s.r2) (h3:P s.r3) (h4:P s.r4) (h5:P s.r5) (h6:P s.r6) (h7:P s.r7) (h8:P s.r8) (h9:P s.r9) (h10:P s.r10) {d:Int} (b0:0<=d) (b1:d<=10):P (tnth s d):=by
 have h:d=0\/d=1\/d=2\/d=3\/d=4\/d=5\/d=6\/d=7\/d=8\/d=9\/d=10:=by omega
 rcases h with rfl | rfl | rfl | rfl | rfl | rfl | rfl | rfl | rfl | rfl | rfl
 ·exact h0
 ·exact h1
 ·exact h2
 ·exact h3
 ·exact h4
 ·exact h5
 ·exact h6
 ·exact h7
 ·exact h8
 ·exact h9
 ·exact h10
theorem agJ {x:Ins} (h:imay x=true) (hk:x.k=0):okop x.op x.w=true:=by
 unfold imay at h
 rw[thm0,thm0] at h
 have q:=h.2.1
 unfold cp at q
 rw[if_pos hk] at q
 unfold okop fY
 simp only[thm0,ey,ba,aZ] at q ⊢
 omega
section
variable {p:Prog} {i:Int} {s:Sta} {a q:Int}
end
def aaD:List (Nat×TI):=[(2,tiq2),
 (3,tiq3),
 (4,tiq4),
 (22,rI),
 (24,rH),
 (27,yz),
 (37,dS),
 (39,lO),
 (42,dR),
 (44,ew),
 (46,fR),
 (48,cK),
 (50,jT),
 (51,mK),
 (52,mJ),
 (54,lS),
 (55,afp),
 (66,afo),
 (105,jd),
 (145,aho),
 (149,ahn),
 (151,ahm)]
theorem aaq:∀t i,(t,i)∈aaD->TIok Tryz.prog t i:=aV (fac (z:=iX) ⟨gQ,eD⟩<|fac (z:=z_Sc) ⟨kG,fN⟩<|fac (z:=z_Ty) ⟨kF,fM⟩<|fac (z:=pA) ⟨xU,qQ⟩ fa0) fa0 (by kernel_rfl)
def qk (key:Nat):Sm:=⟨15,key,[.agg kProg,.one (.int .i64),.agg kSta],[.one (.sl (kN 172 2211221102211221102211221102211221102211221102211221102211221102211221102211221102211221102211221102211221102211221102211221102211221102211221102211221102211221102211221102) 66),.one (.int .i64)],true⟩
def wd (p:Prog) (i:Int) (s:Sta):List Dt:=[.l ((aM p i s).1),.z ((aM p i s).2)]
def iJ:List Dt->List Dt:=rd_Prog fun p=>rdZ fun i=>rd_Sta fun s=>fun _=>wd p i s
def pZ:Tr:=
(.call 0 [.int .i64,.int .i64] (.cons (.var 0) (.cL (.lw 1) .nil)) 174
(.br (.eq (.var 175) (.lit 0))
(.br (.lt (.var 2) (.lit 0))
(.leaf (.cL .ln (.cons (.lit 2) .nil)))
(.br (.lt (.var 2) (.len (.lw 1)))
(.call 1 [.bool] (.vs 3 171 .nil) 176
(.br (.bw 176)
(.call 2 [.int .i64] (.ins (.lw 1) (.var 2) .nil) 177
(.loop 0 178 [.int .i64] (.cons (.var 177) .nil)
(.br (.lt (.lit 0) (.var 178))
(.call 3 [.int .i64] (.cons (.conv .u64 (.var 178)) .nil) 179
(.br (.lt (.var 179) (.lit 0))
.panic
(.br (.lt (.var 179) (.lit 11))
(.br (.eq (.nth (.var 179) (.sv 3 11)) (.lit 0))
(.leaf (.cL .ln (.cons (.lit 110) .nil)))
(.next 0 (.cons (.bin .and .i64 (.var 178) (.bin .sub .i64 (.var 178) (.lit 1))) .nil)))
.panic)))
(.br (.lt (.get (.lw 1) (.var 2) 6) (.lit 0))
.panic
(.br (.lt (.get (.lw 1) (.var 2) 6) (.lit 11))
(.cut 1 179 [.int .i8,.int .u64,.int .u64,.int .i64,.int .i64,.int .u64,.int .u64,.int .i64,.int .i64]
(.br (.getb (.lw 1) (.var 2) 4)
(.next 1 (.tn (.get (.lw 1) (.var 2) 6) 3 9 .nil))
(.call 5 (kSc) (.cons (.conv .u64 (.get (.lw 1) (.var 2) 8)) .nil) 179
(.call 14 (kTy) (.vs 179 6 .nil) 185
(.next 1 (.vs 185 9 .nil)))))
(.call 4 [.int .i64,.bool] (.cons (.var 2) (.ins (.lw 1) (.var 2) .nil)) 188
(.cut 2 190 [.bool]
(.br (.eq (.get (.lw 1) (.var 2) 0) (.lit 4))
(.next 2 (.consb (.tt false) .nil))
(.next 2 (.consb (.not (.eq (.get (.lw 1) (.var 2) 0) (.lit 6))) .nil)))
(.cut 3 191 [.int .i8,.int .u64,.int .u64,.int .i64,.int .i64,.int .u64,.int .u64,.int .i64,.int .i64,.int .i8,.int .u64,.int .u64,.int .i64,.int .i64,.int .u64,.int .u64,.int .i64,.int .i64,.int .i8,.int .u64,.int .u64,.int .i64,.int .i64,.int .u64,.int .u64,.int .i64,.int .i64,.int .i8,.int .u64,.int .u64,.int .i64,.int .i64,.int .u64,.int .u64,.int .i64,.int .i64,.int .i8,.int .u64,.int .u64,.int .i64,.int .i64,.int .u64,.int .u64,.int .i64,.int .i64,.int .i8,.int .u64,.int .u64,.int .i64,.int .i64,.int .u64,.int .u64,.int .i64,.int .i64,.int .i8,.int .u64,.int .u64,.int .i64,.int .i64,.int .u64,.int .u64,.int .i64,.int .i64,.int .i8,.int .u64,.int .u64,.int .i64,.int .i64,.int .u64,.int .u64,.int .i64,.int .i64,.int .i8,.int .u64,.int .u64,.int .i64,.int .i64,.int .u64,.int .u64,.int .i64,.int .i64,.int .i8,.int .u64,.int .u64,.int .i64,.int .i64,.int .u64,.int .u64,.int .i64,.int .i64,.int .i8,.int .u64,.int .u64,.int .i64,.int .i64,.int .u64,.int .u64,.int .i64,.int .i64,.int .i8,.int .u64,.int .u64,.int .i64,.int .i64,.int .u64,.int .u64,.int .i64,.int .i64,.int .i8,.int .u64,.int .u64,.int .i64,.int .i64,.int .u64,.int .u64,.int .i64,.int .i64,.int .i8,.int .u64,.int .u64,.int .i64,.int .i64,.int .u64,.int .u64,.int .i64,.int .i64,.int .i8,.int .u64,.int .u64,.int .i64,.int .i64,.int .u64,.int .u64,.int .i64,.int .i64,.int .i8,.int .u64,.int .u64,.int .i64,.int .i64,.int .u64,.int .u64,.int .i64,.int .i64,.int .i8,.int .u64,.int .u64,.int .i64,.int .i64,.int .u64,.int .u64,.int .i64,.int .i64,.int .i8,.int .u64,.int .u64,.int .i64,.int .i64,.int .u64,.int .u64,.int .i64,.int .i64,.int .i8,.int .u64,.int .u64,.int .i64,.int .i64,.int .u64,.int .u64,.int .i64,.int .i64]
(.br (.eq (.get (.lw 1) (.var 2) 0) (.lit 0))
(.br (.lt (.get (.lw 1) (.var 2) 5) (.lit 0))
.panic
(.br (.lt (.get (.lw 1) (.var 2) 5) (.lit 11))
(.call 7 (kTy) (.cL (.lq .ln (.ins (.lw 1) (.var 2) .nil)) (.tn (.get (.lw 1) (.var 2) 5) 3 9 (.vs 179 9 .nil))) 191
(.next 3 (.rg (.get (.lw 1) (.var 2) 5) (.vs 191 9 .nil) (.vs 3 99 .nil) (.vs 102 72 .nil))))
.panic))
(.br (.eq (.get (.lw 1) (.var 2) 0) (.lit 1))
(.call 8 [.int .i64,.int .i64,.bool] (.cons (.var 0) (.cL (.lw 1) (.cL (.lq .ln (.ins (.lw 1) (.var 2) .nil)) (.tn (.get (.lw 1) (.var 2) 6) 3 9 .nil)))) 191
(.br (.bw 193)
(.call 9 (kSc) (.cons (.conv .i64 (.get (.lw 1) (.var 2) 3)) .nil) 194
(.call 14 (kTy) (.vs 194 6 .nil) 200
(.br (.lt (.get (.lw 1) (.var 2) 5) (.lit 0))
.panic
(.br (.lt (.get (.lw 1) (.var 2) 5) (.lit 11))
(.br (.eq (.nth (.get (.lw 1) (.var 2) 6) (.sv 3 11)) (.lit 3))
(.call 11 (kTy++[.int .i64]) (.rg (.get (.lw 1) (.var 2) 5) (.vs 200 9 .nil) (.vs 3 99 .nil) (.vs 102 72 (.vs 191 2 (.cons (.conv .i64 (.get (.lw 1) (.var 2) 3)) .nil)))) 209
(.br (.eq (.var 218) (.lit 0))
(.next 3 (.rg (.get (.lw 1) (.var 2) 5) (.vs 209 9 .nil) (.rg (.get (.lw 1) (.var 2) 5) (.vs 200 9 .nil) (.vs 3 99 .nil) .nil) (.vs 102 72 .nil)))
(.leaf (.cL .ln (.cons (.var 218) .nil)))))
(.next 3 (.rg (.get (.lw 1) (.var 2) 5) (.vs 200 9 .nil) (.vs 3 99 .nil) (.vs 102 72 .nil))))
.panic))))
(.leaf (.cL .ln (.cons (.lit 111) .nil)))))
(.br (.eq (.get (.lw 1) (.var 2) 0) (.lit 2))
(.br (.lt (.get (.lw 1) (.var 2) 5) (.lit 0))
.panic
(.br (.lt (.get (.lw 1) (.var 2) 5) (.lit 11))
(.call 8 [.int .i64,.int .i64,.bool] (.cons (.var 0) (.cL (.lw 1) (.cL (.lq .ln (.ins (.lw 1) (.var 2) .nil)) (.tn (.get (.lw 1) (.var 2) 5) 3 9 .nil)))) 191
(.br (.bw 193)
(.br (.eq (.nth (.get (.lw 1) (.var 2) 5) (.sv 3 11)) (.lit 3))
(.call 12 (kSta++[.int .i64]) (.vs 3 171 (.vs 191 2 (.cons (.conv .i64 (.get (.lw 1) (.var 2) 3)) (.tn (.get (.lw 1) (.var 2) 6) 3 9 .nil)))) 194
(.br (.eq (.var 365) (.lit 0))
(.next 3 (.vs 194 171 .nil))
(.leaf (.cL .ln (.cons (.var 365) .nil)))))
(.next 3 (.vs 3 171 .nil)))
(.leaf (.cL .ln (.cons (.lit 111) .nil)))))
.panic))
(.br (.eq (.get (.lw 1) (.var 2) 0) (.lit 5))
(.call 10 (kTy) .nil 191
(.next 3 (.vs 191 9 (.zr 45 (.vs 57 117 .nil)))))
(.next 3 (.vs 3 171 .nil))))))
(.br (.lt (.get (.lw 1) (.var 2) 5) (.lit 0))
.panic
(.br (.lt (.get (.lw 1) (.var 2) 5) (.lit 11))
(.cut 4 362 [.bool]
(.br (.eq (.get (.lw 1) (.var 2) 0) (.lit 3))
(.br (.eq (.nth (.get (.lw 1) (.var 2) 5) (.sv 191 11)) (.lit 1))
(.next 4 (.consb (.eq (.var 179) (.lit 1)) .nil))
(.next 4 (.consb (.tt false) .nil)))
(.next 4 (.consb (.tt false) .nil)))
(.call 6 [.int .i8,.bool] (.cons (.get (.lw 1) (.var 2) 1) .nil) 363
(.cut 5 365 [.list (kN 172 2211221102211221102211221102211221102211221102211221102211221102211221102211221102211221102211221102211221102211221102211221102211221102211221102211221102211221102211221102)]
(.br (.bw 190)
(.br (.bw 362)
(.br (.bw 364)
(.call 13 (kSc++[.bool]) (.cons (.var 363) (.tn (.get (.lw 1) (.var 2) 5) 192 6 (.vs 180 6 .nil))) 365
(.br (.bw 371)
(.call 14 (kTy) (.vs 365 6 .nil) 372
(.next 5 (.cL (.lq .ln (.cons (.bin .add .i64 (.var 2) (.lit 1)) (.rg (.get (.lw 1) (.var 2) 5) (.vs 372 9 .nil) (.vs 191 99 .nil) (.vs 290 72 .nil)))) .nil)))
(.next 5 (.cL .ln .nil))))
(.next 5 (.cL (.lq .ln (.cons (.bin .add .i64 (.var 2) (.lit 1)) (.vs 191 171 .nil))) .nil)))
(.next 5 (.cL (.lq .ln (.cons (.bin .add .i64 (.var 2) (.lit 1)) (.vs 191 171 .nil))) .nil)))
(.next 5 (.cL .ln .nil)))
(.br (.bw 189)
(.br (.bw 362)
(.call 13 (kSc++[.bool]) (.cons (.get (.lw 1) (.var 2) 1) (.tn (.get (.lw 1) (.var 2) 5) 192 6 (.vs 180 6 .nil))) 366
(.br (.bw 372)
(.call 14 (kTy) (.vs 366 6 .nil) 373
(.br (.lt (.len (.lw 365)) (.lit 1073741824))
(.leaf (.cL (.lq (.lw 365) (.cons (.var 188) (.rg (.get (.lw 1) (.var 2) 5) (.vs 373 9 .nil) (.vs 191 99 .nil) (.vs 290 72 .nil)))) (.cons (.lit 0) .nil)))
.panic))
(.leaf (.cL (.lw 365) (.cons (.lit 0) .nil)))))
(.br (.lt (.len (.lw 365)) (.lit 1073741824))
(.leaf (.cL (.lq (.lw 365) (.cons (.var 188) (.vs 191 171 .nil))) (.cons (.lit 0) .nil)))
.panic))
(.leaf (.cL (.lw 365) (.cons (.lit 0) .nil)))))))
.panic))))))
.panic)))))
(.leaf (.cL .ln (.cons (.lit 2) .nil)))))
(.leaf (.cL .ln (.cons (.lit 2) .nil)))))
(.leaf (.cL .ln (.cons (.var 175) .nil)))))
def sP_vstep:Spec:={F:=fun k=>match k with | 0=>c_icheck.F | 1=>c_tmay.F | 2=>c_vrd.F | 3=>oy | 4=>c_itgt.F | 5=>c_vone.F | 6=>c_bnot.F | 7=>c_valu.F | 8=>c_vacc.F | 9=>c_vby.F | 10=>c_tscal.F | 11=>c_tload.F | 12=>c_tstore.F | 13=>c_vgiv.F | 14=>c_vsca.F | _=>fun _=>[],pre:=fun k=>match k with | 0=>cV | 7=>fl | 8=>nb | _=>fun _=>True,hw:=sHw,hx:=sHx,hi:=sHi}
theorem afR:bp aaD [c_icheck.m 0,c_tmay.m 1,c_vrd.m 2,yJ 3,c_itgt.m 4,c_vone.m 5,c_bnot.m 6,c_valu.m 7,c_vacc.m 8,c_vby.m 9,c_tscal.m 10,c_tload.m 11,c_tstore.m 12,c_vgiv.m 13,c_vsca.m 14] [(38,Tryz.f38,[(3,[.tmpI 9 .i64]++tps [(6,2),(36,14)]),(999999,[]),(999998,[])],[(10,[.cels 7 0 (kN 9 221122110)]++tps [(57,12)]),(12,[.tmpX 13 [none] 4]++tps [(77,12)]),(37,[.cels 5 0 (kN 171 221122110221122110221122110221122110221122110221122110221122110221122110221122110221122110221122110221122110221122110221122110221122110221122110221122110221122110221122110)]++tps [(6,2),(14,8),(89,129)]),(39,[.tmpX 23 [none] 4]++tps [(225,15)])]),(86,Tryz.f86,[(999999,[]),(999998,[])],[(3,[.cT 3 0 (kN 172 2211221102211221102211221102211221102211221102211221102211221102211221102211221102211221102211221102211221102211221102211221102211221102211221102211221102211221102211221102) 66]++tps [(15,10)])]),(87,Tryz.f87,[(999999,[]),(999998,[])],[])] [(999999,[]),(999997,[])] [] 200 Tryz.f15 [.agg kProg,.one (.int .i64),.agg kSta] [.one (.sl (kN 172 2211221102211221102211221102211221102211221102211221102211221102211221102211221102211221102211221102211221102211221102211221102211221102211221102211221102211221102211221102) 66),.one (.int .i64)] true (v_Prog (.int .i64::v_Sta [])) pZ:=trI (by kernel_rfl)
def mh:List Dt->Prop
 | .z x0::.l x1::.z x2::rest=>(let f (p:Prog) (i:Int):Prop:=p.l.length<=maxLen;f ⟨x0,x1⟩ x2)/\noL rest=true
 | _=>False
section
variable (U:Env)
theorem aoL (e t:E) (m k n:Nat):(E.rg e (E.vs m 9 .nil) (E.rg e (E.vs k 9 .nil) (E.vs n 99 .nil) .nil) (E.vs (n+99) 72 t)).D U=d_Sta (sreg (sreg (staV U n) (e.I U) (tyV U k)) (e.I U) (tyV U m)) (t.D U):=by kernel_rfl
theorem amp (m n:Nat):(E.vs m 9 (.zr 45 (.vs (n+54) 117 .nil))).D U=d_Sta {staV U n with r0:=tyV U m,r1:=tnil,r2:=tnil,r3:=tnil,r4:=tnil,r5:=tnil} []:=by kernel_rfl
end
theorem ap6 (s:Sta):c_tmay.F (d_Sta s [])=[.z (b2i (smay s))]:=by
 simp only[c_tmay];rw[bN]
theorem aiO (p:Prog) (i:Int) (s:Sta):iJ (.z p.ctx::.l p.l::.z i::d_Sta s [])=[.l (aM p i s).1,.z (aM p i s).2]:=by
 have h:iJ (.z p.ctx::.l p.l::.z i::d_Sta s [])=rd_Sta (fun s=>fun _=>wd p i s) (d_Sta s []):=by kernel_rfl
 rw[h,bN];rfl
structure SF (p:Prog) (i:Int) (s:Sta) (U:Env):Prop where
 l:U.l 1=p.l
 c:U.i 0=p.ctx
 i:U.i 2=i
 s:staV U 3=s
theorem SF.ag {p:Prog} {i:Int} {s:Sta} {n:Nat} {U U':Env} (h:SF p i s U) (ha:Ag n U U') (hn:174<=n):SF p i s U':=
 ⟨(ha 1 (by omega)).2.2.symm.trans h.l,(ha 0 (by omega)).1.symm.trans h.c,(ha 2 (by omega)).1.symm.trans h.i,(um ha (by omega)).trans h.s⟩
theorem SF.X {p:Prog} {i:Int} {s:Sta} {U:Env} (h:SF p i s U) (c:Nat):(E.get (.lw 1) (.var 2) c).I U=gt p.l i c:=by
 simp only[E.I,E.R,h.l,h.i]
theorem oD {G:Env->E->Prop} {U:Env} {I:Nat->List Dt->Prop} {p:Prog} {k:Int} {s s1:Sta} {b:Ty} {cc:E} {v:Nat} {c m:Int} {k1 k0:Tr} (F:SF p k s U) (hS:staV U 191=s1) (hB:tyV U 179=b) (hc:cc.I U=c)
  (h1:vway s1 (aa p.l k).d (tnth s1 (aa p.l k).d) b true m c true=[(m,sreg s1 (aa p.l k).d (tyV U (v+7)))]->k1.asks sP_vstep G U I) (h0:vway s1 (aa p.l k).d (tnth s1 (aa p.l k).d) b true m c true=[]->k0.asks sP_vstep G U I):(amv 13 14 cc (.get (.lw 1) (.var 2) 5) 191 179 v k1 k0).asks sP_vstep G U I:=
 gg aoF tP (fun _=>trivial) (fun _=>trivial) (F.X 5) hS hB hc h1 h0
theorem afh (i:Int) (x:Ins) (s:Sta) (b:Ty):(gz i x s b).length<=1:=by
 unfold gz vway
 split
 ·exact Nat.zero_le _
 ·split
  ·split
   ·exact Nat.le_refl _
   ·exact Nat.zero_le _
  ·exact Nat.le_refl _
theorem afJ (p:Prog) (hp:Prog.ok p) (i:Int) (hi:inK .i64 i=true) (s:Sta) (hs:Sta.ok s) (hp:mh (d_Prog p (.z i::d_Sta s []))):Cn pZ sP_vstep (v_Prog (.int .i64::v_Sta [])) (d_Prog p (.z i::d_Sta s [])) iJ:=by
 intro U g
 have hl:p.l.length<=maxLen:=hp.1
 rw[show iJ (d_Prog p (.z i::d_Sta s []))=_ from aiO p i s]
 have F0:SF p i s U:=by
  have g':Dt.z (U.i 0)::Dt.l (U.l 1)::Dt.z (U.i 2)::varsD U 3 (v_Sta [])=.z p.ctx::.l p.l::.z i::d_Sta s []:=g
  rw[pJ] at g'
  simp only[thm5,Dt.z.injEq,Dt.l.injEq] at g'
  exact⟨g'.2.1,g'.1,g'.2.2.1,iF g'.2.2.2⟩
 unfold pZ
 refine am (xs:=[.z p.ctx,.l p.l]) (by simp only[E.D,E.I,E.R,F0.c,F0.l]) hl (fun e=> ?_)
 have e1:U.i 175=(cY p).2:=e.2.1
 clear e
 refine⟨fun c0=> ?_,fun c0=> ?_⟩
 rotate_left
 ·have h0:¬(cY p).2=0:=by
   simp only[E.B,E.I,e1] at c0
   exact neI c0
  show[Dt.l [],.z (U.i 175)]=[.l (aM p i s).1,.z (aM p i s).2]
  unfold aM
  rw[e1,if_neg h0]
 have hok:(cY p).2=0:=by
  simp only[E.B,E.I,e1] at c0
  exact eqI c0
 obtain⟨⟨q1,q2,q3⟩,q4,q5⟩:=nQ hl hok
 refine⟨fun c1=> ?_,fun c1=>⟨fun c2=> ?_,fun c2=> ?_⟩⟩
 ·simp only[E.B,E.I,F0.i] at c1
  show[Dt.l [],.z 2]=[.l (aM p i s).1,.z (aM p i s).2]
  unfold aM
  rw[if_pos hok,if_neg (fun h=>by have:=thm3 c1;have:=h.1.1;omega)]
 rotate_left
 ·simp only[E.B,E.I,E.R,F0.i,F0.l] at c2
  show[Dt.l [],.z 2]=[.l (aM p i s).1,.z (aM p i s).2]
  unfold aM
  rw[if_pos hok,if_neg (fun h=>by have:=thm2 c2;have:=h.1.2;omega)]
 have h0:0<=i:=by
  simp only[E.B,E.I,F0.i] at c1
  have:=thm2 c1
  omega
 have hk9:i<(p.l.length:Int):=by
  simp only[E.B,E.I,E.R,F0.i,F0.l] at c2
  exact thm3 c2
 obtain⟨k,rfl⟩:=jv h0
 have hk3:k<p.l.length:=by omega
 clear c0 c1 c2
 refine am (xs:=d_Sta s []) (by rw[rn,F0.s];rfl) trivial (fun e=> ?_)
 rw[show sP_vstep.F 1=c_tmay.F from rfl,ap6] at e
 have m1:U.b 176=smay s:=e.1.trans (fQ _)
 clear e
 refine⟨fun c3=> ?_,fun c3=> ?_⟩
 rotate_left
 ·have hm:¬smay s=true:=by rw[m1.symm.trans c3];simp
  show[Dt.l [],.z 2]=[.l (aM p k s).1,.z (aM p k s).2]
  unfold aM
  rw[if_pos hok,if_neg (fun h=>hm h.2)]
 have hm:smay s=true:=m1.symm.trans c3
 have hst:aM p k s=((dy p k s).1.map sRow,(dy p k s).2):=by
  unfold aM
  rw[if_pos hok,if_pos ⟨⟨h0,hk9⟩,hm⟩];rfl
 have herr:∀e:Int,(dy p k s)=([],e)->aM p k s=([],e):=fun e he=>by
  rw[hst,he];rfl
 have hx:imay (aa p.l k)=true:=pd hl hok (Int.natCast_nonneg k) hk9
 have hd:=cF hx
 obtain⟨R,hR,hR2⟩:=ahj hx
 refine am (d_Ins (aa p.l k) []) (by rw[tQ];simp only[E.R,E.I,F0.l,F0.i];rfl) trivial (fun e=> ?_)
 have e181:U.i 177=(R:Int):=by
  have e:=e
  rw[show sP_vstep.F 2=c_vrd.F from rfl,aoE,hR] at e
  exact e.1
 clear e
 refine⟨fun ds=>∃m:Nat,ds=[.z (m:Int)]/\UInv s R m,fun ds=>(dI ds 0).toNat,⟨R,by simp only[E.D,E.I,e181],.init hR2⟩,?_⟩
 intro U2 ha2 _ hi2
 obtain⟨n,hds,hU⟩:=hi2
 rw[show varsD U2 178 [.int .i64]=[.z (U2.i 178)] from rfl] at hds ⊢
 simp only[thm5,Dt.z.injEq,and_true] at hds
 have F2:=F0.ag ha2 (by decide)
 refine⟨fun c3=> ?_,fun c3=> ?_⟩
 ·
  have hn:0<n:=by
   simp only[E.B,E.I,hds] at c3
   have:=thm3 c3
   omega
  refine am [.z (IntKind.u64.wrap n)] (by simp only[E.D,E.I,hds]) trivial (fun e=> ?_)
  have e183:U2.i 179=tzI (IntKind.u64.wrap n):=e.1
  clear e
  have hz:=aoT hn hU.lt
  have cB:(E.eq (.nth (.var 179) (.sv 3 11)) (.lit 0)).B U2=((dx s).getD (tzI (IntKind.u64.wrap n)).toNat 0==0):=by
   show(((E.sv 3 11).L U2).getD (U2.i 179).toNat 0==0)=_
   rw[show(E.sv 3 11).L U2=dx (staV U2 3) from rfl,F2.s,e183]
  refine⟨fun c=> ?_,fun _=>⟨fun _=>⟨fun c4=> ?_,fun c4=> ?_⟩,fun c=> ?_⟩⟩
  ·simp only[E.B,E.I,e183] at c
   have:=thm3 c
   omega
  ·rw[cB] at c4
   have hb:gY s R=true:=hU.bad hn c4
   have hvs:dy p k s=([],110):=by
    unfold dy
    rw[hR,ez,if_pos hb]
   show[Dt.l [],.z 110]=[.l (aM p k s).1,.z (aM p k s).2]
   rw[herr 110 hvs]
  ·rw[cB] at c4
   obtain⟨m2,e1,e2,e3⟩:=hU.next hn c4
   refine aI ⟨⟨m2,?_,e2⟩,?_⟩
   ·simp only[E.D,E.I,hds,e1]
   ·show((E.bin .and .i64 (.var 178) (.bin .sub .i64 (.var 178) (.lit 1))).I U2).toNat<(U2.i 178).toNat
    simp only[E.I,hds,e1]
    omega
  ·simp only[E.B,E.I,e183] at c
   have:=thm2 c
   omega
 have hn:n=0:=by
  simp only[E.B,E.I,hds] at c3
  have:=thm2 c3
  omega
 subst hn
 have hu:gY s R=false:=hU.good
 have X5:∀U,SF p k s U->(E.lt (.get (.lw 1) (.var 2) 5) (.lit 0)).B U=false/\(E.lt (.get (.lw 1) (.var 2) 5) (.lit 11)).B U=true:=fun U F=>by
  have h5:(E.get (.lw 1) (.var 2) 5).I U=(aa p.l k).d:=F.X 5
  simp only[E.B]
  rw[h5]
  exact⟨eR (by show¬(aa p.l k).d<0;omega),eA (by show(aa p.l k).d<11;omega)⟩
 have X6:(E.lt (.get (.lw 1) (.var 2) 6) (.lit 0)).B U2=false/\(E.lt (.get (.lw 1) (.var 2) 6) (.lit 11)).B U2=true:=by
  have h6:(E.get (.lw 1) (.var 2) 6).I U2=(aa p.l k).s:=F2.X 6
  simp only[E.B]
  rw[h6]
  exact⟨eR (by show¬(aa p.l k).s<0;omega),eA (by show(aa p.l k).s<11;omega)⟩
 refine⟨fun c=>(by rw[X6.1] at c;cases c),fun _=>⟨fun _=> ?_,fun c=>(by rw[X6.2] at c;cases c)⟩⟩
 refine⟨fun ds=>ds=d_Ty (bR (aa p.l k) s) [],⟨fun c=>aI ?_,fun c=> ?_⟩,?_⟩
 ·have hb:(aa p.l k).br=true:=by
   simp only[E.B,E.R,E.I,F2.l,F2.i] at c
   exact c
  rw[lR,F2.s,show(E.get (.lw 1) (.var 2) 6).I U2=(aa p.l k).s from F2.X 6]
  unfold bR
  rw[if_pos hb];rfl
 ·have hb:¬(aa p.l k).br=true:=by
   simp only[E.B,E.R,E.I,F2.l,F2.i] at c
   exact fun h=>by rw[show(gt p.l k 4==1)=true from h] at c;cases c
  refine am [.z (IntKind.u64.wrap (aa p.l k).imm)] (by
   show[Dt.z (IntKind.u64.wrap ((E.get (.lw 1) (.var 2) 8).I U2))]=_
   rw[F2.X 8];rfl) trivial (fun e=> ?_)
  rw[show sP_vstep.F 5=c_vone.F from rfl,aiM] at e
  have e1:=(aen (ks:=[]) e).1
  refine am (d_Sc (vone (IntKind.u64.wrap (aa p.l k).imm)) []) (by rw[zH,e1];rfl) trivial (fun e=>aI ?_)
  rw[show sP_vstep.F 14=c_vsca.F from rfl,tP] at e
  rw[ae0,jp e]
  unfold bR
  rw[if_neg hb];rfl
 intro U3 ha3 _ hi3
 have F3:=F2.ag ha3 (by decide)
 have hB3:tyV U3 179=bR (aa p.l k) s:=qW (r:=[]) (r':=[]) hi3
 clear hi3
 refine am (.z k::d_Ins (aa p.l k) []) (by
  show Dt.z (U3.i 2)::(E.ins (.lw 1) (.var 2) .nil).D U3=_
  rw[tQ,F3.i,show(E.lw 1).R U3=p.l from F3.l,show(E.var 2).I U3=(k:Int) from F3.i];rfl) trivial (fun e=> ?_)
 rw[show sP_vstep.F 4=c_itgt.F from rfl,aoK] at e
 have t1:U3.i 188=(itgt k (aa p.l k)).1:=e.1
 have t2:U3.b 189=(itgt k (aa p.l k)).2:=e.2.1.trans (fQ _)
 clear e
 have kx:∀(U:Env),SF p k s U->∀z:Int,(E.eq (.get (.lw 1) (.var 2) 0) (.lit z)).B U=((aa p.l k).k==z):=fun U F z=>by
  show((E.get (.lw 1) (.var 2) 0).I U==z)=_
  rw[F.X 0];rfl
 refine⟨fun ds=>ds=[.z (b2i (lB (aa p.l k)))],⟨fun c=>aI ?_,fun c=>aI ?_⟩,?_⟩
 ·show[Dt.z (b2i false)]=_
  unfold lB
  rw[show((aa p.l k).k==4)=true from(kx U3 F3 4).symm.trans c];rfl
 ·show[Dt.z (b2i (!((E.get (.lw 1) (.var 2) 0).I U3==6)))]=_
  rw[F3.X 0]
  unfold lB
  rw[show((aa p.l k).k==4)=false from(kx U3 F3 4).symm.trans c];rfl
 intro U4 ha4 _ hi4
 have f4:U4.b 190=lB (aa p.l k):=jM (Dt.z.inj (List.cons.inj hi4).1)
 clear hi4
 have F4:=F3.ag ha4 (by decide)
 have hB4:tyV U4 179=bR (aa p.l k) s:=(vL ha4 (by decide)).trans hB3
 have hl1:(E.lw 1).R U4=p.l:=F4.l
 have h180:(E.var 2).I U4=(k:Int):=F4.i
 have hS4:staV U4 3=s:=F4.s
 have h5:(E.get (.lw 1) (.var 2) 5).I U4=(aa p.l k).d:=F4.X 5
 have h6:(E.get (.lw 1) (.var 2) 6).I U4=(aa p.l k).s:=F4.X 6
 have verr:∀(s1:Sta) (e:Int),vmid p (aa p.l k) s=(s1,e)->e≠0->aM p k s=([],e):=fun s1 e h h0=>herr e (by
  unfold dy
  rw[hR,ez,hu,h,if_neg (by simp),if_neg h0])
 have z3:aN (aa p.l k).sz=true->(E.conv .i64 (.get (.lw 1) (.var 2) 3)).I U4=(aa p.l k).sz:=fun hz=>by
  show IntKind.i64.wrap ((E.get (.lw 1) (.var 2) 3).I U4)=_
  rw[F4.X 3];exact aa2 hz
 have wz:∀{t:Ty},ax p.ctx t (aa p.l k).off (aa p.l k).sz=true->aN (aa p.l k).sz=true:=fun {t} h=>by
  unfold ax at h
  rw[thm0,thm0] at h
  exact h.2.1
 refine⟨fun ds=>∃s1,ds=d_Sta s1 []/\vmid p (aa p.l k) s=(s1,0),?_,?_⟩
 ·refine⟨fun c0=> ?_,fun c0=>⟨fun c1=> ?_,fun c1=>⟨fun c2=> ?_,fun c2=>⟨fun c5=> ?_,fun c5=> ?_⟩⟩⟩⟩
  ·
   have hk:(aa p.l k).k=0:=eqI ((kx U4 F4 0).symm.trans c0)
   refine⟨fun c=>(by rw[(X5 U4 F4).1] at c;cases c),fun _=>⟨fun _=> ?_,fun c=>(by rw[(X5 U4 F4).2] at c;cases c)⟩⟩
   refine am (.l (insR (aa p.l k))::d_Ty (tnth s (aa p.l k).d) (d_Ty (bR (aa p.l k) s) [])) (by
    show Dt.l ((E.lq .ln (.ins (.lw 1) (.var 2) .nil)).R U4)::(E.tn (.get (.lw 1) (.var 2) 5) 3 9 (.vs 179 9 .nil)).D U4=_
    rw[aml,lR,ae0,hB4,hS4,h180,h5,hl1];rfl) rfl (fun e=> ?_)
   rw[show sP_vstep.F 7=c_valu.F from rfl,aoH] at e
   have eT:=jp e
   refine aI ⟨_,by rw[aha (n:=3),hS4,h5,eT];rfl,?_⟩
   unfold vmid;rw[if_pos hk]
  ·
   have hk0:(aa p.l k).k≠0:=neI ((kx U4 F4 0).symm.trans c0)
   have hk:(aa p.l k).k=1:=eqI ((kx U4 F4 1).symm.trans c1)
   refine am (.z p.ctx::.l p.l::.l (insR (aa p.l k))::d_Ty (tnth s (aa p.l k).s) []) (by
    show Dt.z (U4.i 0)::Dt.l (U4.l 1)::Dt.l ((E.lq .ln (.ins (.lw 1) (.var 2) .nil)).R U4)::(E.tn (.get (.lw 1) (.var 2) 6) 3 9 .nil).D U4=_
    rw[aml,lR,hS4,h180,h6,hl1,F4.c,F4.l];rfl) ⟨rfl,hl⟩ (fun e=> ?_)
   rw[show sP_vstep.F 8=c_vacc.F from rfl,aiN] at e
   have a1:U4.i 191=alo (tnth s (aa p.l k).s) (aa p.l k):=e.1
   have a2:U4.i 192=ahi (tnth s (aa p.l k).s) (aa p.l k):=e.2.1
   have a3:U4.b 193=ax p.ctx (tnth s (aa p.l k).s) (aa p.l k).off (aa p.l k).sz:=e.2.2.1.trans (fQ _)
   clear e
   refine⟨fun cw=> ?_,fun cw=> ?_⟩
   ·have hw:=a3.symm.trans cw
    have hz:=z3 (wz hw)
    refine am [.z (aa p.l k).sz] (by
     show[Dt.z ((E.conv .i64 (.get (.lw 1) (.var 2) 3)).I U4)]=_
     rw[hz]) trivial (fun e=> ?_)
    rw[show sP_vstep.F 9=c_vby.F from rfl,aoG] at e
    have e1:=(aen (ks:=[]) e).1
    refine am (d_Sc (vbyt (aa p.l k).sz) []) (by rw[zH,e1];rfl) trivial (fun e=> ?_)
    rw[show sP_vstep.F 14=c_vsca.F from rfl,tP] at e
    have eT:=jp e
    clear e
    refine⟨fun c=>(by rw[(X5 U4 F4).1] at c;cases c),fun _=>⟨fun _=> ?_,fun c=>(by rw[(X5 U4 F4).2] at c;cases c)⟩⟩
    have c3e:(E.eq (.nth (.get (.lw 1) (.var 2) 6) (.sv 3 11)) (.lit 3)).B U4=((tnth s (aa p.l k).s).k==3):=by
     show(((E.sv 3 11).L U4).getD ((E.get (.lw 1) (.var 2) 6).I U4).toNat 0==3)=_
     rw[show(E.sv 3 11).L U4=dx (staV U4 3) from rfl,hS4,h6];rfl
    refine⟨fun c3=> ?_,fun c3=> ?_⟩
    ·have h3:(tnth s (aa p.l k).s).k=3:=eqI (c3e.symm.trans c3)
     refine am (d_Sta (sreg s (aa p.l k).d (tsc (vbyt (aa p.l k).sz))) [.z (alo (tnth s (aa p.l k).s) (aa p.l k)),.z (ahi (tnth s (aa p.l k).s) (aa p.l k)),.z (aa p.l k).sz]) (by
      rw[aha (n:=3),hS4,h5,eT]
      show d_Sta _ [Dt.z (U4.i 191),.z (U4.i 192),.z ((E.conv .i64 (.get (.lw 1) (.var 2) 3)).I U4)]=_
      rw[hz,a1,a2]) trivial (fun e=> ?_)
     rw[show sP_vstep.F 11=c_tload.F from rfl,amo] at e
     have eL:=al2 e
     have eE:U4.i 218=_:=aiE e
     clear e
     have hv:vmid p (aa p.l k) s=(sreg (sreg s (aa p.l k).d (tsc (vbyt (aa p.l k).sz))) (aa p.l k).d (tyV U4 209),U4.i 218):=by
      unfold vmid
      rw[if_neg hk0,if_pos hk,if_pos hw]
      unfold vld
      rw[if_pos h3,eL,eE]
     refine⟨fun c9=> ?_,fun c9=> ?_⟩
     ·have h0:U4.i 218=0:=eqI c9
      refine aI ⟨_,by rw[aoL (n:=3),hS4,h5,eT];rfl,?_⟩
      rw[hv,h0]
     ·have h0:U4.i 218≠0:=neI c9
      show[Dt.l [],.z (U4.i 218)]=[.l (aM p k s).1,.z (aM p k s).2]
      rw[verr _ _ hv h0]
    ·have h3:¬(tnth s (aa p.l k).s).k=3:=neI (c3e.symm.trans c3)
     refine aI ⟨_,by rw[aha (n:=3),hS4,h5,eT];rfl,?_⟩
     unfold vmid
     rw[if_neg hk0,if_pos hk,if_pos hw]
     unfold vld
     rw[if_neg h3]
   ·have hw:¬ax p.ctx (tnth s (aa p.l k).s) (aa p.l k).off (aa p.l k).sz=true:=by
     rw[a3.symm.trans cw];simp
    show[Dt.l [],.z 111]=[.l (aM p k s).1,.z (aM p k s).2]
    rw[verr s 111 (by unfold vmid;rw[if_neg hk0,if_pos hk,if_neg hw]) (by decide)]
  ·
   have hk0:(aa p.l k).k≠0:=neI ((kx U4 F4 0).symm.trans c0)
   have hk1:(aa p.l k).k≠1:=neI ((kx U4 F4 1).symm.trans c1)
   have hk:(aa p.l k).k=2:=eqI ((kx U4 F4 2).symm.trans c2)
   refine⟨fun c=>(by rw[(X5 U4 F4).1] at c;cases c),fun _=>⟨fun _=> ?_,fun c=>(by rw[(X5 U4 F4).2] at c;cases c)⟩⟩
   refine am (.z p.ctx::.l p.l::.l (insR (aa p.l k))::d_Ty (tnth s (aa p.l k).d) []) (by
    show Dt.z (U4.i 0)::Dt.l (U4.l 1)::Dt.l ((E.lq .ln (.ins (.lw 1) (.var 2) .nil)).R U4)::(E.tn (.get (.lw 1) (.var 2) 5) 3 9 .nil).D U4=_
    rw[aml,lR,hS4,h180,h5,hl1,F4.c,F4.l];rfl) ⟨rfl,hl⟩ (fun e=> ?_)
   rw[show sP_vstep.F 8=c_vacc.F from rfl,aiN] at e
   have a1:U4.i 191=alo (tnth s (aa p.l k).d) (aa p.l k):=e.1
   have a2:U4.i 192=ahi (tnth s (aa p.l k).d) (aa p.l k):=e.2.1
   have a3:U4.b 193=ax p.ctx (tnth s (aa p.l k).d) (aa p.l k).off (aa p.l k).sz:=e.2.2.1.trans (fQ _)
   clear e
   refine⟨fun cw=> ?_,fun cw=> ?_⟩
   ·have hw:=a3.symm.trans cw
    have hz:=z3 (wz hw)
    have c3e:(E.eq (.nth (.get (.lw 1) (.var 2) 5) (.sv 3 11)) (.lit 3)).B U4=((tnth s (aa p.l k).d).k==3):=by
     show(((E.sv 3 11).L U4).getD ((E.get (.lw 1) (.var 2) 5).I U4).toNat 0==3)=_
     rw[show(E.sv 3 11).L U4=dx (staV U4 3) from rfl,hS4,h5];rfl
    refine⟨fun c3=> ?_,fun c3=> ?_⟩
    ·have h3:(tnth s (aa p.l k).d).k=3:=eqI (c3e.symm.trans c3)
     refine am (d_Sta s (.z (alo (tnth s (aa p.l k).d) (aa p.l k))::.z (ahi (tnth s (aa p.l k).d) (aa p.l k))::.z (aa p.l k).sz::d_Ty (tnth s (aa p.l k).s) [])) (by
      rw[rn,hS4]
      show d_Sta _ (Dt.z (U4.i 191)::.z (U4.i 192)::.z ((E.conv .i64 (.get (.lw 1) (.var 2) 3)).I U4)::(E.tn (.get (.lw 1) (.var 2) 6) 3 9 .nil).D U4)=_
      rw[lR,hz,a1,a2,hS4,h6];rfl) trivial (fun e=> ?_)
     rw[show sP_vstep.F 12=c_tstore.F from rfl,ag9] at e
     have eL:=an8 e
     have eE:U4.i 365=_:=aiF e
     clear e
     have hv:vmid p (aa p.l k) s=(staV U4 194,U4.i 365):=by
      unfold vmid
      rw[if_neg hk0,if_neg hk1,if_pos hk,if_pos hw]
      unfold vsv
      rw[if_pos h3,eL,eE]
     refine⟨fun c9=> ?_,fun c9=> ?_⟩
     ·have h0:U4.i 365=0:=eqI c9
      refine aI ⟨_,by rw[rn];rfl,?_⟩
      rw[hv,h0]
     ·have h0:U4.i 365≠0:=neI c9
      show[Dt.l [],.z (U4.i 365)]=[.l (aM p k s).1,.z (aM p k s).2]
      rw[verr _ _ hv h0]
    ·have h3:¬(tnth s (aa p.l k).d).k=3:=neI (c3e.symm.trans c3)
     refine aI ⟨_,by rw[rn,hS4];rfl,?_⟩
     unfold vmid
     rw[if_neg hk0,if_neg hk1,if_pos hk,if_pos hw]
     unfold vsv
     rw[if_neg h3]
   ·have hw:¬ax p.ctx (tnth s (aa p.l k).d) (aa p.l k).off (aa p.l k).sz=true:=by
     rw[a3.symm.trans cw];simp
    show[Dt.l [],.z 111]=[.l (aM p k s).1,.z (aM p k s).2]
    rw[verr s 111 (by unfold vmid;rw[if_neg hk0,if_neg hk1,if_pos hk,if_neg hw]) (by decide)]
  ·
   have hk:(aa p.l k).k=5:=eqI ((kx U4 F4 5).symm.trans c5)
   refine am (xs:=[]) rfl trivial (fun e=> ?_)
   have eT:tyV U4 191=ea:=jp e
   refine aI ⟨_,by rw[amp (n:=3),hS4,eT],?_⟩
   unfold vmid
   rw[if_neg (by omega),if_neg (by omega),if_neg (by omega),if_pos hk];rfl
  ·have hk0:(aa p.l k).k≠0:=neI ((kx U4 F4 0).symm.trans c0)
   have hk1:(aa p.l k).k≠1:=neI ((kx U4 F4 1).symm.trans c1)
   have hk2:(aa p.l k).k≠2:=neI ((kx U4 F4 2).symm.trans c2)
   have hk5:(aa p.l k).k≠5:=neI ((kx U4 F4 5).symm.trans c5)
   refine aI ⟨_,by rw[rn,hS4];rfl,?_⟩
   unfold vmid
   rw[if_neg hk0,if_neg hk1,if_neg hk2,if_neg hk5]
 intro U5 ha5 _ hi5
 obtain⟨s1,hds,hmid⟩:=hi5
 have hS5:staV U5 191=s1:=iF (r:=[]) (r':=[]) hds
 clear hds
 have F5:=F4.ag ha5 (by decide)
 have hB5:tyV U5 179=bR (aa p.l k) s:=(vL ha5 (by decide)).trans hB4
 refine⟨fun c=>(by rw[(X5 U5 F5).1] at c;cases c),fun _=>⟨fun _=> ?_,fun c=>(by rw[(X5 U5 F5).2] at c;cases c)⟩⟩
 have cae:(E.eq (.nth (.get (.lw 1) (.var 2) 5) (.sv 191 11)) (.lit 1)).B U5=((tnth s1 (aa p.l k).d).k==1):=by
  show(((E.sv 191 11).L U5).getD ((E.get (.lw 1) (.var 2) 5).I U5).toNat 0==1)=_
  rw[show(E.sv 191 11).L U5=dx (staV U5 191) from rfl,hS5,F5.X 5];rfl
 refine⟨fun ds=>ds=[.z (b2i (iY (aa p.l k) s1 (bR (aa p.l k) s)))],⟨fun c3=>⟨fun ca=>aI ?_,fun ca=>aI ?_⟩,fun c3=>aI ?_⟩,?_⟩
 ·show[Dt.z (b2i ((tyV U5 179).k==1))]=_
  rw[hB5]
  unfold iY
  rw[show((aa p.l k).k==3)=true from(kx U5 F5 3).symm.trans c3,cae.symm.trans ca];rfl
 ·show[Dt.z (b2i false)]=_
  unfold iY
  rw[cae.symm.trans ca,aO,aK]
 ·show[Dt.z (b2i false)]=_
  unfold iY
  rw[show((aa p.l k).k==3)=false from(kx U5 F5 3).symm.trans c3];rfl
 intro U6 ha6 _ hi6
 have q6:U6.b 362=iY (aa p.l k) s1 (bR (aa p.l k) s):=jM (Dt.z.inj (List.cons.inj hi6).1)
 clear hi6
 have F6:=F5.ag ha6 (by decide)
 have hS6:=(um ha6 (by decide)).trans hS5
 have hB6:tyV U6 179=bR (aa p.l k) s:=(vL ha6 (by decide)).trans hB5
 have f6:=(ha6 190 (by decide)).2.1.symm.trans ((ha5 190 (by decide)).2.1.symm.trans f4)
 have t16:=(ha6 188 (by decide)).1.symm.trans ((ha5 188 (by decide)).1.symm.trans ((ha4 188 (by decide)).1.symm.trans t1))
 have t26:=(ha6 189 (by decide)).2.1.symm.trans ((ha5 189 (by decide)).2.1.symm.trans ((ha4 189 (by decide)).2.1.symm.trans t2))
 have n6:(E.bin .add .i64 (.var 2) (.lit 1)).I U6=opI .add .i64 (k:Int) 1:=by simp only[E.I,F6.i]
 have h56:(E.get (.lw 1) (.var 2) 5).I U6=(aa p.l k).d:=F6.X 5
 refine am [.z (aa p.l k).op] (by
  show[Dt.z ((E.get (.lw 1) (.var 2) 1).I U6)]=_
  rw[F6.X 1];rfl) trivial (fun e=> ?_)
 have b7:U6.i 363=dr (aa p.l k).op:=e.1
 have b8:U6.b 364=dh (aa p.l k).op:=e.2.1.trans (fQ _)
 clear e
 have one1:∀S:E,S.L U6=staL s1->(E.cL (.lq .ln (.cons (.bin .add .i64 (.var 2) (.lit 1)) S)) .nil).D U6=[.l ([(opI .add .i64 (k:Int) 1,s1)].map sRow)]:=fun S h=>by
  show[Dt.l ([]++[(E.bin .add .i64 (.var 2) (.lit 1)).I U6::S.L U6])]=_
  rw[n6,h];rfl
 refine⟨fun ds=>ds=[.l ((gz k (aa p.l k) s1 (bR (aa p.l k) s)).map sRow)],⟨fun c=> ?_,fun c=>aI ?_⟩,?_⟩
 ·obtain⟨k4,k6⟩:=aal (x:=aa p.l k) (f6.symm.trans c)
  refine⟨fun c6=>⟨fun c8=> ?_,fun c8=>aI ?_⟩,fun c6=>aI ?_⟩
  ·have hw:=aaj (k:=k) (s:=s1) (b:=bR (aa p.l k) s) k4 k6 (by rw[show iY (aa p.l k) s1 (bR (aa p.l k) s)=true from q6.symm.trans c6,show dh (aa p.l k).op=true from b8.symm.trans c8];rfl)
   refine oD (m:=opI .add .i64 (k:Int) 1) F6 hS6 hB6 b7 (fun h=>aI ?_) (fun h=>aI ?_)
   ·rw[hw,h]
    show[Dt.l ([]++[(E.bin .add .i64 (.var 2) (.lit 1)).I U6::(E.rg (.get (.lw 1) (.var 2) 5) (.vs 372 9 .nil) (.vs 191 99 .nil) (.vs (191+99) 72 .nil)).L U6])]=_
    rw[n6,zG,hS6,h56];rfl
   ·rw[hw,h];rfl
  ·rw[one1 _ (by rw[rm,hS6]),pG k4 k6 (by rw[show dh (aa p.l k).op=false from b8.symm.trans c8,aK])]
  ·rw[one1 _ (by rw[rm,hS6]),pG k4 k6 (by rw[show iY (aa p.l k) s1 (bR (aa p.l k) s)=false from q6.symm.trans c6];rfl)]
 ·rw[pH (afi (f6.symm.trans c))];rfl
 intro U7 ha7 _ hi7
 have w7:U7.l 365=(gz k (aa p.l k) s1 (bR (aa p.l k) s)).map sRow:=Dt.l.inj (List.cons.inj hi7).1
 clear hi7
 have F7:=F6.ag ha7 (by decide)
 have hS7:=(um ha7 (by decide)).trans hS6
 have hB7:tyV U7 179=bR (aa p.l k) s:=(vL ha7 (by decide)).trans hB6
 have q7:=(ha7 362 (by decide)).2.1.symm.trans q6
 have t17:=(ha7 188 (by decide)).1.symm.trans t16
 have t27:=(ha7 189 (by decide)).2.1.symm.trans t26
 have h57:(E.get (.lw 1) (.var 2) 5).I U7=(aa p.l k).d:=F7.X 5
 have hfin:aM p k s=((gz k (aa p.l k) s1 (bR (aa p.l k) s)).map sRow++(jQ k (aa p.l k) s1 (bR (aa p.l k) s)).map sRow,0):=by
  have hs:dy p k s=(gz k (aa p.l k) s1 (bR (aa p.l k) s)++jQ k (aa p.l k) s1 (bR (aa p.l k) s),0):=by
   unfold dy
   rw[hR,ez,hu,hmid,if_neg (by simp),if_pos rfl]
  rw[hst,hs,List.map_append]
 have hlen:(E.lt (.len (.lw 365)) (.lit 1073741824)).B U7=true:=by
  simp only[E.B,E.I,E.R,w7,List.length_map]
  have:=afh k (aa p.l k) s1 (bR (aa p.l k) s)
  exact eA (by omega)
 have fin:∀(e:E) (L:List (List Int)),e.R U7=L->L=(gz k (aa p.l k) s1 (bR (aa p.l k) s)).map sRow++(jQ k (aa p.l k) s1 (bR (aa p.l k) s)).map sRow->(E.cL e (.cons (.lit 0) .nil)).D U7=[.l (aM p k s).1,.z (aM p k s).2]:=fun e L h h2=>by
  rw[hfin,<-h2,<-h];rfl
 have app:∀S:E,∀s2:Sta,S.L U7=staL s2->(E.lq (.lw 365) (.cons (.var 188) S)).R U7=(gz k (aa p.l k) s1 (bR (aa p.l k) s)).map sRow++[((itgt k (aa p.l k)).1,s2)].map sRow:=fun S s2 h=>by
  show U7.l 365++[U7.i 188::S.L U7]=_
  rw[w7,t17,h];rfl
 refine⟨fun c=> ?_,fun c=> ?_⟩
 rotate_left
 ·refine fin _ _ rfl ?_
  rw[pE (t27.symm.trans c),List.map_nil,List.append_nil];exact w7
 have hj:(itgt k (aa p.l k)).2=true:=t27.symm.trans c
 refine⟨fun c2=> ?_,fun c2=> ?_⟩
 ·have hw:=aai (k:=k) (s:=s1) (b:=bR (aa p.l k) s) hj (q7.symm.trans c2)
  refine oD (c:=(aa p.l k).op) (m:=(itgt k (aa p.l k)).1) F7 hS7 hB7 (F7.X 1) (fun h=> ?_) (fun h=> ?_)
  ·refine⟨fun _=> ?_,fun c=>(by rw[hlen] at c;cases c)⟩
   refine fin _ _ (app _ (sreg s1 (aa p.l k).d (tyV U7 373)) ?_) ?_
   ·show(E.rg (.get (.lw 1) (.var 2) 5) (.vs 373 9 .nil) (.vs 191 99 .nil) (.vs (191+99) 72 .nil)).L U7=_
    rw[zG,hS7,h57]
   ·rw[hw,h]
  ·refine fin _ _ rfl ?_
   rw[hw,h,List.map_nil,List.append_nil];exact w7
 ·refine⟨fun _=> ?_,fun c=>(by rw[hlen] at c;cases c)⟩
  refine fin _ _ (app _ s1 (by rw[rm,hS7])) ?_
  rw[vI hj (q7.symm.trans c2)]
theorem af3 {sp:Spec} {key:Nat} (hF:sp.F key=iJ) (hP:sp.pre key=mh) (hH:∀w,sp.hw w->sHw w:=by exact fun _ h=>h):SmOk Tryz.prog sp (qk key):=
 nS (s:=qk key) (hW:=hH) hF hP (by kernel_rfl) aaq (smc (mu rfl rfl)<|smc (aic rfl rfl)<|smc (adM rfl rfl)<|smc (af7 rfl)<|smc (tk rfl rfl)<|smc (nI rfl rfl)<|smc (xJ rfl rfl)<|smc (xD rfl rfl)<|smc (anu rfl rfl)<|smc (alD rfl rfl)<|smc (vb rfl rfl)<|smc (alF rfl rfl)<|smc (agz rfl rfl)<|smc (anp rfl rfl)<|smc (ann rfl rfl) sm0) Tryz.func15 (fnc Tryz.func38 (fnc Tryz.func86 (fnc Tryz.func87 fn0))) afR (.inr (.inl ⟨(fun xs h L hL=>by unfold mh at h;split at h<;>first | exact h.elim | (obtain⟨h,hr⟩:=h;simp[uR hr] at hL;subst hL;exact h)),rfl⟩)) (eW fun p gp=>fun i gi=>eF fun s gs=>fun hp=>afJ p gp i gi s gs hp)
def aaG:List (Nat×TI):=[(2,tiq2),
 (3,tiq3),
 (4,tiq4),
 (22,rI),
 (24,rH),
 (27,yz),
 (37,dS),
 (39,lO),
 (42,dR),
 (44,ew),
 (46,fR),
 (48,cK),
 (50,jT),
 (51,mK),
 (52,mJ),
 (54,lS),
 (55,afp),
 (66,afo),
 (105,jd)]
theorem aat:∀t i,(t,i)∈aaG->TIok Tryz.prog t i:=aV (fac (z:=iX) ⟨gQ,eD⟩<|fac (z:=z_Sc) ⟨kG,fN⟩<|fac (z:=z_Ty) ⟨kF,fM⟩<|fac (z:=pA) ⟨xU,qQ⟩ fa0) fa0 (by kernel_rfl)
def mi:List Dt->Prop
 | .z x0::.l x1::.z x2::rest=>(let f (p:Prog) (i:Int):Prop:=p.l.length<=maxLen;f ⟨x0,x1⟩ x2)/\noL rest=true
 | _=>False
def c_jstep:Cd:=⟨16,[.agg kProg,.one (.int .i64),.agg kSta],[.one (.sl (kN 172 2211221102211221102211221102211221102211221102211221102211221102211221102211221102211221102211221102211221102211221102211221102211221102211221102211221102211221102211221102) 66),.one (.int .i64)],rd_Prog fun p=>rdZ fun i=>rd_Sta fun s _=>[.l ((aM p i s).1),.z ((aM p i s).2)],mi⟩
def qe:Tr:=
(.call 0 [.int .i64,.int .i64] (.cons (.var 0) (.cL (.lw 1) .nil)) 174
(.br (.eq (.var 175) (.lit 0))
(.br (.lt (.var 2) (.lit 0))
(.leaf (.cL .ln (.cons (.lit 2) .nil)))
(.br (.lt (.var 2) (.len (.lw 1)))
(.call 1 [.bool] (.vs 3 171 .nil) 176
(.br (.bw 176)
(.call 2 [.int .i64] (.ins (.lw 1) (.var 2) .nil) 177
(.loop 0 178 [.int .i64] (.cons (.lit 0) .nil)
(.br (.lt (.var 178) (.lit 11))
(.br (.eq (.bin .and .i64 (.bin .shr .i64 (.var 177) (.conv .u64 (.var 178))) (.lit 1)) (.lit 1))
(.br (.lt (.var 178) (.lit 0))
.panic
(.br (.eq (.nth (.var 178) (.sv 3 11)) (.lit 0))
(.leaf (.cL .ln (.cons (.lit 110) .nil)))
(.next 0 (.cons (.bin .add .i64 (.var 178) (.lit 1)) .nil))))
(.next 0 (.cons (.bin .add .i64 (.var 178) (.lit 1)) .nil)))
(.br (.lt (.get (.lw 1) (.var 2) 6) (.lit 0))
.panic
(.br (.lt (.get (.lw 1) (.var 2) 6) (.lit 11))
(.cut 1 179 [.int .i8,.int .u64,.int .u64,.int .i64,.int .i64,.int .u64,.int .u64,.int .i64,.int .i64]
(.br (.getb (.lw 1) (.var 2) 4)
(.next 1 (.tn (.get (.lw 1) (.var 2) 6) 3 9 .nil))
(.call 3 (kSc) (.cons (.conv .u64 (.get (.lw 1) (.var 2) 8)) .nil) 179
(.call 12 (kTy) (.vs 179 6 .nil) 185
(.next 1 (.vs 185 9 .nil)))))
(.call 4 [.int .i64,.bool] (.cons (.var 2) (.ins (.lw 1) (.var 2) .nil)) 188
(.br (.eq (.get (.lw 1) (.var 2) 0) (.lit 0))
(.br (.eq (.get (.lw 1) (.var 2) 1) (.lit 8))
(.br (.lt (.get (.lw 1) (.var 2) 5) (.lit 0))
.panic
(.br (.lt (.get (.lw 1) (.var 2) 5) (.lit 11))
(.call 5 (kTy) (.ins (.lw 1) (.var 2) (.tn (.get (.lw 1) (.var 2) 5) 3 9 (.tn (.get (.lw 1) (.var 2) 5) 3 9 .nil))) 190
(.leaf (.cL (.lq .ln (.cons (.bin .add .i64 (.var 2) (.lit 1)) (.rg (.get (.lw 1) (.var 2) 5) (.vs 190 9 .nil) (.vs 3 99 .nil) (.vs 102 72 .nil)))) (.cons (.lit 0) .nil))))
.panic))
(.br (.lt (.get (.lw 1) (.var 2) 5) (.lit 0))
.panic
(.br (.lt (.get (.lw 1) (.var 2) 5) (.lit 11))
(.call 5 (kTy) (.ins (.lw 1) (.var 2) (.tn (.get (.lw 1) (.var 2) 5) 3 9 (.vs 179 9 .nil))) 190
(.leaf (.cL (.lq .ln (.cons (.bin .add .i64 (.var 2) (.lit 1)) (.rg (.get (.lw 1) (.var 2) 5) (.vs 190 9 .nil) (.vs 3 99 .nil) (.vs 102 72 .nil)))) (.cons (.lit 0) .nil))))
.panic)))
(.br (.eq (.get (.lw 1) (.var 2) 0) (.lit 1))
(.call 6 [.bool] (.cons (.var 0) (.cL (.lw 1) (.tn (.get (.lw 1) (.var 2) 6) 3 9 (.cons (.get (.lw 1) (.var 2) 7) (.cons (.conv .i64 (.get (.lw 1) (.var 2) 3)) .nil))))) 190
(.br (.bw 190)
(.call 7 (kSc) (.cons (.conv .i64 (.get (.lw 1) (.var 2) 3)) .nil) 191
(.call 12 (kTy) (.vs 191 6 .nil) 197
(.br (.lt (.get (.lw 1) (.var 2) 5) (.lit 0))
.panic
(.br (.lt (.get (.lw 1) (.var 2) 5) (.lit 11))
(.br (.eq (.nth (.get (.lw 1) (.var 2) 6) (.sv 3 11)) (.lit 3))
(.call 8 (kTy++[.int .i64]) (.rg (.get (.lw 1) (.var 2) 5) (.vs 197 9 .nil) (.vs 3 99 .nil) (.vs 102 72 (.cons (.bin .add .i64 (.nth (.get (.lw 1) (.var 2) 6) (.sv 10 11)) (.get (.lw 1) (.var 2) 7)) (.cons (.bin .add .i64 (.nth (.get (.lw 1) (.var 2) 6) (.sv 11 11)) (.get (.lw 1) (.var 2) 7)) (.cons (.conv .i64 (.get (.lw 1) (.var 2) 3)) .nil))))) 206
(.br (.eq (.var 215) (.lit 0))
(.leaf (.cL (.lq .ln (.cons (.bin .add .i64 (.var 2) (.lit 1)) (.rg (.get (.lw 1) (.var 2) 5) (.vs 206 9 .nil) (.rg (.get (.lw 1) (.var 2) 5) (.vs 197 9 .nil) (.vs 3 99 .nil) .nil) (.vs 102 72 .nil)))) (.cons (.lit 0) .nil)))
(.leaf (.cL .ln (.cons (.var 215) .nil)))))
(.leaf (.cL (.lq .ln (.cons (.bin .add .i64 (.var 2) (.lit 1)) (.rg (.get (.lw 1) (.var 2) 5) (.vs 197 9 .nil) (.vs 3 99 .nil) (.vs 102 72 .nil)))) (.cons (.lit 0) .nil))))
.panic))))
(.leaf (.cL .ln (.cons (.lit 111) .nil)))))
(.br (.eq (.get (.lw 1) (.var 2) 0) (.lit 2))
(.br (.lt (.get (.lw 1) (.var 2) 5) (.lit 0))
.panic
(.br (.lt (.get (.lw 1) (.var 2) 5) (.lit 11))
(.call 6 [.bool] (.cons (.var 0) (.cL (.lw 1) (.tn (.get (.lw 1) (.var 2) 5) 3 9 (.cons (.get (.lw 1) (.var 2) 7) (.cons (.conv .i64 (.get (.lw 1) (.var 2) 3)) .nil))))) 190
(.br (.bw 190)
(.br (.eq (.nth (.get (.lw 1) (.var 2) 5) (.sv 3 11)) (.lit 3))
(.call 9 (kSta++[.int .i64]) (.vs 3 171 (.cons (.bin .add .i64 (.nth (.get (.lw 1) (.var 2) 5) (.sv 10 11)) (.get (.lw 1) (.var 2) 7)) (.cons (.bin .add .i64 (.nth (.get (.lw 1) (.var 2) 5) (.sv 11 11)) (.get (.lw 1) (.var 2) 7)) (.cons (.conv .i64 (.get (.lw 1) (.var 2) 3)) (.tn (.get (.lw 1) (.var 2) 6) 3 9 .nil))))) 191
(.br (.eq (.var 362) (.lit 0))
(.leaf (.cL (.lq .ln (.cons (.bin .add .i64 (.var 2) (.lit 1)) (.vs 191 171 .nil))) (.cons (.lit 0) .nil)))
(.leaf (.cL .ln (.cons (.var 362) .nil)))))
(.leaf (.cL (.lq .ln (.cons (.bin .add .i64 (.var 2) (.lit 1)) (.vs 3 171 .nil))) (.cons (.lit 0) .nil))))
(.leaf (.cL .ln (.cons (.lit 111) .nil)))))
.panic))
(.br (.eq (.get (.lw 1) (.var 2) 0) (.lit 3))
(.call 11 [.sl (kN 172 2211221102211221102211221102211221102211221102211221102211221102211221102211221102211221102211221102211221102211221102211221102211221102211221102211221102211221102211221102) 66] (.ins (.lw 1) (.var 2) (.cons (.var 2) (.cons (.var 188) (.vs 3 171 (.vs 179 9 .nil))))) 190
(.leaf (.cL (.lw 190) (.cons (.lit 0) .nil))))
(.br (.eq (.get (.lw 1) (.var 2) 0) (.lit 4))
(.leaf (.cL (.lq .ln (.cons (.var 188) (.vs 3 171 .nil))) (.cons (.lit 0) .nil)))
(.br (.eq (.get (.lw 1) (.var 2) 0) (.lit 5))
(.call 10 (kTy) .nil 190
(.leaf (.cL (.lq .ln (.cons (.bin .add .i64 (.var 2) (.lit 1)) (.vs 190 9 (.zr 45 (.vs 57 117 .nil))))) (.cons (.lit 0) .nil))))
(.br (.eq (.get (.lw 1) (.var 2) 0) (.lit 6))
(.leaf (.cL .ln (.cons (.lit 0) .nil)))
(.leaf (.cL (.lq .ln (.cons (.bin .add .i64 (.var 2) (.lit 1)) (.vs 3 171 .nil))) (.cons (.lit 0) .nil))))))))))))
.panic)))))
(.leaf (.cL .ln (.cons (.lit 2) .nil)))))
(.leaf (.cL .ln (.cons (.lit 2) .nil)))))
(.leaf (.cL .ln (.cons (.var 175) .nil)))))
theorem afW:bp aaG (smN 0 [c_jcheck,c_ymay,c_jrd,c_wone,c_jtgt,c_jalu,c_jwi,c_wby,c_yload,c_ystore,c_yscal,c_jjump,c_jsca]) [] [(9,[.tmpI 12 .i64]++tps [(6,2),(52,18)]),(999999,[]),(999997,[])] [(16,[.cels 4 0 (kN 9 221122110)]++tps [(75,8)])] 200 Tryz.f16 c_jstep.a c_jstep.r (tp c_jstep.r) (v_Prog (.int .i64::v_Sta [])) qe:=trI (by kernel_rfl)
section
variable (U:Env)
theorem aoC (e:E) (m k n:Nat):(E.rg e (E.vs m 9 .nil) (E.rg e (E.vs k 9 .nil) (E.vs n 99 .nil) .nil) (E.vs (n+99) 72 .nil)).L U=staL (sreg (sreg (staV U n) (e.I U) (tyV U k)) (e.I U) (tyV U m)):=by kernel_rfl
theorem amm (m n:Nat):(E.vs m 9 (.zr 45 (.vs (n+54) 117 .nil))).L U=staL {staV U n with r0:=tyV U m,r1:=tnil,r2:=tnil,r3:=tnil,r4:=tnil,r5:=tnil}:=by kernel_rfl
end
theorem aeY (p:Prog) (i:Int) (s:Sta):c_jstep.F (d_Prog p (.z i::d_Sta s []))=[.l (aM p i s).1,.z (aM p i s).2]:=by
 simp only[c_jstep,sJ,bN,rdZ]
theorem aoD (s:Sta):c_ymay.F (d_Sta s [])=[.z (b2i (smay s))]:=by
 simp only[c_ymay];rw[bN]
theorem aoJ (x:Ins):c_jrd.F (d_Ins x [])=[.z (vrd x)]:=by
 simp only[c_jrd,iK]
theorem aoI (i:Int) (x:Ins):c_jtgt.F (.z i::d_Ins x [])=[.z (itgt i x).1,.z (b2i (itgt i x).2)]:=by
 simp only[c_jtgt,rdZ,iK]
theorem aiP (x:Ins) (a b:Ty):c_jalu.F (d_Ins x (d_Ty a (d_Ty b [])))=d_Ty (jalu x a b) []:=by
 simp only[c_jalu,iK,ee]
theorem amn (s:Sta) (lo hi z:Int):c_yload.F (d_Sta s [.z lo,.z hi,.z z])=d_Ty (mS s lo hi z) [.z (mT s lo hi z)]:=by
 simp only[c_yload,bN,rdZ]
theorem ag8 (s:Sta) (lo hi z:Int) (t:Ty):c_ystore.F (d_Sta s (.z lo::.z hi::.z z::d_Ty t []))=d_Sta (hJ s lo hi z t) [.z (mO s lo hi z t)]:=by
 simp only[c_ystore,bN,rdZ,ee]
theorem ap4:∀n:Nat,n<2048->∀m:Nat,m<11->(opI .and .i64 (opI .shr .i64 (n:Int) (IntKind.u64.wrap (m:Int))) 1==1)=n.testBit m:=by decide +kernel
theorem anY {x:Ins} (h:imay x=true) (hk:x.k=0):x.w=32\/x.w=64:=by
 have q:=agJ h hk
 unfold okop fY at q
 simp only[thm0,ey,ba,aZ] at q
 exact q.2
theorem aeb {x:Ins} (h:imay x=true) (hk:x.k=1\/x.k=2):aN x.sz=true:=by
 unfold imay at h
 rw[thm0,thm0] at h
 have q:=h.2.1
 unfold cp at q
 rcases hk with hk | hk
 ·rw[if_neg (by omega),if_pos hk,thm0] at q;exact q.1
 ·rw[if_neg (by omega),if_neg (by omega),if_pos hk] at q;exact q
theorem aaS {s:Sta} (h:smay s=true) {d:Int} (b0:0<=d) (b1:d<=10):tok (tnth s d)=true:=
 afm (P:=fun t=>tok t=true) (akB h) (akA h) (akz h) (aky h) (akx h) (akw h) (akv h) (aku h) (akt h) (aks h) (afx h) b0 b1
theorem akh (z:Int):tok (tsc (vone z))=true:=by
 have h1:bmay (vone z).r=true:=(cy _).2 ⟨Int.le_refl _,Int.le_refl _⟩
 have h2:kmay (vone z).k=true:=agt z
 show(if(1:Int)=0 then _ else if(1:Int)=1 then(bmay (vone z).r&&kmay (vone z).k)&&_ else _)=true
 rw[if_neg (by decide),if_pos rfl,h1,h2];rfl
theorem afl {s:Sta} {x:Ins} (h:smay s=true) (b0:0<=x.s) (b1:x.s<=10):tok (bR x s)=true:=by
 unfold bR
 split
 ·exact aaS h b0 b1
 ·exact akh _
theorem alL:c_jstep.Ok Tryz.prog:=
 okc (hl:=.inr (.inl ⟨(fun xs (h:mi xs) L hL=>by unfold mi at h;split at h<;>first | exact h.elim | (obtain⟨h,hr⟩:=h;simp[uR hr] at hL;subst hL;exact h)),rfl⟩)) qe (v_Prog (.int .i64::v_Sta [])) aat (olc agE<|olc ah7<|olc anO<|olc ah9<|olc aim<|olc anR<|olc anN<|olc anl<|olc alA<|olc agw<|olc qK<|olc alN<|olc adZ ol0) Tryz.func16 fn0 afW<|eW fun p hp=>fun i hi=>eF fun s hs hp U g=>by
 have hl:p.l.length<=maxLen:=hp.1
 rw[aeY p i s]
 have F0:SF p i s U:=by
  have g':Dt.z (U.i 0)::Dt.l (U.l 1)::Dt.z (U.i 2)::varsD U 3 (v_Sta [])=.z p.ctx::.l p.l::.z i::d_Sta s []:=g
  rw[pJ] at g'
  simp only[thm5,Dt.z.injEq,Dt.l.injEq] at g'
  exact⟨g'.2.1,g'.1,g'.2.2.1,iF g'.2.2.2⟩
 unfold qe
 refine am (xs:=[.z p.ctx,.l p.l]) (by simp only[E.D,E.I,E.R,F0.c,F0.l]) hl (fun e=> ?_)
 have e1:U.i 175=(cY p).2:=e.2.1
 clear e
 refine⟨fun c0=> ?_,fun c0=> ?_⟩
 rotate_left
 ·have h0:¬(cY p).2=0:=by
   simp only[E.B,E.I,e1] at c0
   exact neI c0
  show[Dt.l [],.z (U.i 175)]=[.l (aM p i s).1,.z (aM p i s).2]
  unfold aM
  rw[e1,if_neg h0]
 have hok:(cY p).2=0:=by
  simp only[E.B,E.I,e1] at c0
  exact eqI c0
 obtain⟨⟨q1,q2,q3⟩,q4,q5⟩:=nQ hl hok
 refine⟨fun c1=> ?_,fun c1=>⟨fun c2=> ?_,fun c2=> ?_⟩⟩
 ·simp only[E.B,E.I,F0.i] at c1
  show[Dt.l [],.z 2]=[.l (aM p i s).1,.z (aM p i s).2]
  unfold aM
  rw[if_pos hok,if_neg (fun h=>by have:=thm3 c1;have:=h.1.1;omega)]
 rotate_left
 ·simp only[E.B,E.I,E.R,F0.i,F0.l] at c2
  show[Dt.l [],.z 2]=[.l (aM p i s).1,.z (aM p i s).2]
  unfold aM
  rw[if_pos hok,if_neg (fun h=>by have:=thm2 c2;have:=h.1.2;omega)]
 have h0:0<=i:=by
  simp only[E.B,E.I,F0.i] at c1
  have:=thm2 c1
  omega
 have hk9:i<(p.l.length:Int):=by
  simp only[E.B,E.I,E.R,F0.i,F0.l] at c2
  exact thm3 c2
 obtain⟨k,rfl⟩:=jv h0
 have hk3:k<p.l.length:=by omega
 clear c0 c1 c2
 refine am (xs:=d_Sta s []) (by rw[rn,F0.s];rfl) trivial (fun e=> ?_)
 simp only[spQ] at e;rw[aoD] at e
 have m1:U.b 176=smay s:=e.1.trans (fQ _)
 clear e
 refine⟨fun c3=> ?_,fun c3=> ?_⟩
 rotate_left
 ·have hm:¬smay s=true:=by rw[m1.symm.trans c3];simp
  show[Dt.l [],.z 2]=[.l (aM p k s).1,.z (aM p k s).2]
  unfold aM
  rw[if_pos hok,if_neg (fun h=>hm h.2)]
 have hm:smay s=true:=m1.symm.trans c3
 have hst:aM p k s=((dy p k s).1.map sRow,(dy p k s).2):=by
  unfold aM
  rw[if_pos hok,if_pos ⟨⟨h0,hk9⟩,hm⟩];rfl
 have herr:∀e:Int,(dy p k s)=([],e)->aM p k s=([],e):=fun e he=>by
  rw[hst,he];rfl
 have hx:imay (aa p.l k)=true:=pd hl hok (Int.natCast_nonneg k) hk9
 have hd:=cF hx
 obtain⟨R,hR,hR2⟩:=ahj hx
 refine am (d_Ins (aa p.l k) []) (by rw[tQ];simp only[E.R,E.I,F0.l,F0.i];rfl) trivial (fun e=> ?_)
 have e181:U.i 177=(R:Int):=by
  have e:=e
  simp only[spQ] at e;rw[aoJ,hR] at e
  exact e.1
 clear e
 refine⟨fun ds=>∃m:Nat,ds=[.z (m:Int)]/\m<=11/\∀j,j<m->(R.testBit j&&(dx s).getD j 0==0)=false,fun ds=>11-(dI ds 0).toNat,⟨0,rfl,by omega,fun j h=>by omega⟩,?_⟩
 intro U2 ha2 _ hi2
 obtain⟨n,hds,hn11,hU⟩:=hi2
 rw[show varsD U2 178 [.int .i64]=[.z (U2.i 178)] from rfl] at hds ⊢
 simp only[thm5,Dt.z.injEq,and_true] at hds
 have F2:=F0.ag ha2 (by decide)
 have e177:U2.i 177=(R:Int):=(ha2 177 (by decide)).1.symm.trans e181
 refine⟨fun c3=> ?_,fun c3=> ?_⟩
 ·have hn:n<11:=by
   simp only[E.B,E.I,hds] at c3
   have:=thm3 c3
   omega
  have cb:(E.eq (.bin .and .i64 (.bin .shr .i64 (.var 177) (.conv .u64 (.var 178))) (.lit 1)) (.lit 1)).B U2=R.testBit n:=by
   simp only[E.B,E.I,e177,hds]
   exact ap4 R hR2 n hn
  have cB:(E.eq (.nth (.var 178) (.sv 3 11)) (.lit 0)).B U2=((dx s).getD n 0==0):=by
   show(((E.sv 3 11).L U2).getD (U2.i 178).toNat 0==0)=_
   rw[show(E.sv 3 11).L U2=dx (staV U2 3) from rfl,F2.s,hds,ez]
  have iE:(E.bin .add .i64 (.var 178) (.lit 1)).I U2=((n+1:Nat):Int):=by
   simp only[E.I,hds];exact apw (by omega)
  have nx:(R.testBit n&&(dx s).getD n 0==0)=false->(∃m:Nat,[Dt.z ((E.bin .add .i64 (.var 178) (.lit 1)).I U2)]=[.z (m:Int)]/\m<=11/\∀j,j<m->(R.testBit j&&(dx s).getD j 0==0)=false)/\11-(dI [Dt.z ((E.bin .add .i64 (.var 178) (.lit 1)).I U2)] 0).toNat<11-(dI [.z (U2.i 178)] 0).toNat:=fun h=>by
   rw[iE]
   refine⟨⟨n+1,rfl,by omega,fun j hj=> ?_⟩,?_⟩
   ·by_cases e:j=n
    ·rw[e];exact h
    ·exact hU j (by omega)
   ·show 11-(((n+1:Nat):Int)).toNat<11-(U2.i 178).toNat
    rw[hds];omega
  refine⟨fun c4=>⟨fun c=> ?_,fun _=>⟨fun c5=> ?_,fun c5=>aI (nx ?_)⟩⟩,fun c4=>aI (nx ?_)⟩
  ·simp only[E.B,E.I,hds] at c
   have:=thm3 c
   omega
  ·have hb:gY s R=true:=by
    unfold gY
    rw[List.any_eq_true]
    exact⟨n,List.mem_range.2 hn,by rw[cb.symm.trans c4,cB.symm.trans c5];rfl⟩
   have hvs:dy p k s=([],110):=by
    unfold dy
    rw[hR,ez,if_pos hb]
   show[Dt.l [],.z 110]=[.l (aM p k s).1,.z (aM p k s).2]
   rw[herr 110 hvs]
  ·rw[cB.symm.trans c5,aK]
  ·rw[cb.symm.trans c4];rfl
 have hn:n=11:=by
  simp only[E.B,E.I,hds] at c3
  have:=thm2 c3
  omega
 subst hn
 have hu:gY s R=false:=by
  unfold gY
  rw[List.any_eq_false]
  intro j hj
  rw[hU j (List.mem_range.1 hj)]
  simp
 have X5:∀U,SF p k s U->(E.lt (.get (.lw 1) (.var 2) 5) (.lit 0)).B U=false/\(E.lt (.get (.lw 1) (.var 2) 5) (.lit 11)).B U=true:=fun U F=>by
  have h5:(E.get (.lw 1) (.var 2) 5).I U=(aa p.l k).d:=F.X 5
  simp only[E.B]
  rw[h5]
  exact⟨eR (by show¬(aa p.l k).d<0;omega),eA (by show(aa p.l k).d<11;omega)⟩
 have X6:(E.lt (.get (.lw 1) (.var 2) 6) (.lit 0)).B U2=false/\(E.lt (.get (.lw 1) (.var 2) 6) (.lit 11)).B U2=true:=by
  have h6:(E.get (.lw 1) (.var 2) 6).I U2=(aa p.l k).s:=F2.X 6
  simp only[E.B]
  rw[h6]
  exact⟨eR (by show¬(aa p.l k).s<0;omega),eA (by show(aa p.l k).s<11;omega)⟩
 refine⟨fun c=>(by rw[X6.1] at c;cases c),fun _=>⟨fun _=> ?_,fun c=>(by rw[X6.2] at c;cases c)⟩⟩
 refine⟨fun ds=>ds=d_Ty (bR (aa p.l k) s) [],⟨fun c=>aI ?_,fun c=> ?_⟩,?_⟩
 ·have hb:(aa p.l k).br=true:=by
   simp only[E.B,E.R,E.I,F2.l,F2.i] at c
   exact c
  rw[lR,F2.s,show(E.get (.lw 1) (.var 2) 6).I U2=(aa p.l k).s from F2.X 6]
  unfold bR
  rw[if_pos hb];rfl
 ·have hb:¬(aa p.l k).br=true:=by
   simp only[E.B,E.R,E.I,F2.l,F2.i] at c
   exact fun h=>by rw[show(gt p.l k 4==1)=true from h] at c;cases c
  refine am [.z (IntKind.u64.wrap (aa p.l k).imm)] (by
   show[Dt.z (IntKind.u64.wrap ((E.get (.lw 1) (.var 2) 8).I U2))]=_
   rw[F2.X 8];rfl) trivial (fun e=> ?_)
  simp only[spQ] at e;rw[show c_wone.F _=_ from aiM _] at e
  have e1:=(aen (ks:=[]) e).1
  refine am (d_Sc (vone (IntKind.u64.wrap (aa p.l k).imm)) []) (by rw[zH,e1];rfl) trivial (fun e=>aI ?_)
  simp only[spQ] at e;rw[show c_jsca.F _=_ from tP _] at e
  rw[ae0,jp e]
  unfold bR
  rw[if_neg hb];rfl
 intro U4 ha4 _ hi4
 have F4:=F2.ag ha4 (by decide)
 have hB4:tyV U4 179=bR (aa p.l k) s:=qW (r:=[]) (r':=[]) hi4
 clear hi4
 refine am (.z k::d_Ins (aa p.l k) []) (by
  show Dt.z (U4.i 2)::(E.ins (.lw 1) (.var 2) .nil).D U4=_
  rw[tQ,F4.i,show(E.lw 1).R U4=p.l from F4.l,show(E.var 2).I U4=(k:Int) from F4.i];rfl) trivial (fun e=> ?_)
 simp only[spQ] at e;rw[aoI] at e
 have t1:U4.i 188=(itgt k (aa p.l k)).1:=e.1
 clear e
 have kx:∀z:Int,(E.eq (.get (.lw 1) (.var 2) 0) (.lit z)).B U4=((aa p.l k).k==z):=fun z=>by
  show((E.get (.lw 1) (.var 2) 0).I U4==z)=_
  rw[F4.X 0];rfl
 have hl1:(E.lw 1).R U4=p.l:=F4.l
 have h180:(E.var 2).I U4=(k:Int):=F4.i
 have hS4:staV U4 3=s:=F4.s
 have h5:(E.get (.lw 1) (.var 2) 5).I U4=(aa p.l k).d:=F4.X 5
 have h6:(E.get (.lw 1) (.var 2) 6).I U4=(aa p.l k).s:=F4.X 6
 have n6:(E.bin .add .i64 (.var 2) (.lit 1)).I U4=opI .add .i64 (k:Int) 1:=by simp only[E.I,F4.i]
 have verr:∀(s1:Sta) (e:Int),vmid p (aa p.l k) s=(s1,e)->e≠0->aM p k s=([],e):=fun s1 e h h0=>herr e (by
  unfold dy
  rw[hR,ez,hu,h,if_neg (by simp),if_neg h0])
 have hfin:∀s1,vmid p (aa p.l k) s=(s1,0)->aM p k s=((gz k (aa p.l k) s1 (bR (aa p.l k) s)++jQ k (aa p.l k) s1 (bR (aa p.l k) s)).map sRow,0):=fun s1 h=>by
  have hs:dy p k s=(gz k (aa p.l k) s1 (bR (aa p.l k) s)++jQ k (aa p.l k) s1 (bR (aa p.l k) s),0):=by
   unfold dy
   rw[hR,ez,hu,h,if_neg (by simp),if_pos rfl]
  rw[hst,hs]
 have tell:(aa p.l k).k≠3->∀s1 b,iY (aa p.l k) s1 b=false:=fun h s1 b=>by
  unfold iY
  rw[show((aa p.l k).k==3)=false from beq_eq_false_iff_ne.2 h];rfl
 have one:∀s1,(aa p.l k).k≠3->(aa p.l k).k≠4->(aa p.l k).k≠6->vmid p (aa p.l k) s=(s1,0)->∀S:E,S.L U4=staL s1->(E.cL (.lq .ln (.cons (.bin .add .i64 (.var 2) (.lit 1)) S)) (.cons (.lit 0) .nil)).D U4=[.l (aM p k s).1,.z (aM p k s).2]:=fun s1 h3 h4 h6 hm S hS=>by
  rw[hfin s1 hm,pG h4 h6 (by rw[tell h3];rfl),pE (by rw[xK (beq_eq_false_iff_ne.2 h3) (beq_eq_false_iff_ne.2 h4)])]
  show[Dt.l ([]++[(E.bin .add .i64 (.var 2) (.lit 1)).I U4::S.L U4]),.z 0]=_
  rw[n6,hS];rfl
 have tg:(aa p.l k).k=3\/(aa p.l k).k=4->(itgt k (aa p.l k)).2=true:=fun h=>by
  have hk64:k<1099511627776:=by unfold maxLen at hl;omega
  rw[tq h (by rw[thm0,ba,ba];omega) (by rw[thm0,ba,ba];omega)]
 have z3:aN (aa p.l k).sz=true->(E.conv .i64 (.get (.lw 1) (.var 2) 3)).I U4=(aa p.l k).sz:=fun hz=>by
  show IntKind.i64.wrap ((E.get (.lw 1) (.var 2) 3).I U4)=_
  rw[F4.X 3];exact aa2 hz
 have h7:(E.get (.lw 1) (.var 2) 7).I U4=(aa p.l k).off:=F4.X 7
 have lo:∀X:E,(E.bin .add .i64 (.nth X (.sv 10 11)) (.get (.lw 1) (.var 2) 7)).I U4=alo (tnth s (X.I U4)) (aa p.l k):=fun X=>by
  show opI .add .i64 (((E.sv 10 11).L U4).getD (X.I U4).toNat 0) ((E.get (.lw 1) (.var 2) 7).I U4)=_
  rw[h7,show((E.sv 10 11).L U4).getD (X.I U4).toNat 0=(tnth (staV U4 3) (X.I U4)).lo from rfl,hS4];rfl
 have hi:∀X:E,(E.bin .add .i64 (.nth X (.sv 11 11)) (.get (.lw 1) (.var 2) 7)).I U4=ahi (tnth s (X.I U4)) (aa p.l k):=fun X=>by
  show opI .add .i64 (((E.sv 11 11).L U4).getD (X.I U4).toNat 0) ((E.get (.lw 1) (.var 2) 7).I U4)=_
  rw[h7,show((E.sv 11 11).L U4).getD (X.I U4).toNat 0=(tnth (staV U4 3) (X.I U4)).hi from rfl,hS4];rfl
 have c3e:∀X:E,(E.eq (.nth X (.sv 3 11)) (.lit 3)).B U4=((tnth s (X.I U4)).k==3):=fun X=>by
  show(((E.sv 3 11).L U4).getD (X.I U4).toNat 0==3)=_
  rw[show((E.sv 3 11).L U4).getD (X.I U4).toNat 0=(tnth (staV U4 3) (X.I U4)).k from rfl,hS4]
 have px:∀{sp:Spec} {G:Env->E->Prop} {t:Tr} {I:Nat->List Dt->Prop},t.asks sp G U4 I->(Tr.br (.lt (.get (.lw 1) (.var 2) 5) (.lit 0)) .panic (.br (.lt (.get (.lw 1) (.var 2) 5) (.lit 11)) t .panic)).asks sp G U4 I:=fun h=>
  ⟨fun c=>(by rw[(X5 U4 F4).1] at c;cases c),fun _=>⟨fun _=>h,fun c=>(by rw[(X5 U4 F4).2] at c;cases c)⟩⟩
 have td:tok (tnth s (aa p.l k).d)=true:=aaS hm (by omega) (by omega)
 have tb:tok (bR (aa p.l k) s)=true:=afl hm (by omega) (by omega)
 refine⟨fun c0=> ?_,fun c0=>⟨fun c1=> ?_,fun c1=>⟨fun c2=> ?_,fun c2=>⟨fun c3=> ?_,fun c3=>⟨fun c4=> ?_,fun c4=>⟨fun c5=> ?_,fun c5=>⟨fun c6=> ?_,fun c6=> ?_⟩⟩⟩⟩⟩⟩⟩
 ·
  have hk:(aa p.l k).k=0:=eqI ((kx 0).symm.trans c0)
  have hw:=anY hx hk
  have op8:(E.eq (.get (.lw 1) (.var 2) 1) (.lit 8)).B U4=((aa p.l k).op==8):=by
   show((E.get (.lw 1) (.var 2) 1).I U4==8)=_
   rw[F4.X 1];rfl
  have mid:∀b,b=(if(aa p.l k).op=8 then tnth s (aa p.l k).d else bR (aa p.l k) s)->vmid p (aa p.l k) s=(sreg s (aa p.l k).d (jalu (aa p.l k) (tnth s (aa p.l k).d) b),0):=fun b hb=>by
   unfold vmid
   rw[if_pos hk,hb,ad4]
  refine⟨fun c8=>px ?_,fun c8=>px ?_⟩
  ·refine am (d_Ins (aa p.l k) (d_Ty (tnth s (aa p.l k).d) (d_Ty (tnth s (aa p.l k).d) []))) (by rw[tQ,lR,lR,hl1,h180,hS4,h5];rfl) ⟨hw,td,td⟩ (fun e=> ?_)
   simp only[spQ] at e;rw[aiP] at e
   exact one _ (by omega) (by omega) (by omega) (mid _ (by rw[if_pos (eqI (op8.symm.trans c8))])) _ (by rw[zG (n:=3),hS4,h5,jp e])
  ·refine am (d_Ins (aa p.l k) (d_Ty (tnth s (aa p.l k).d) (d_Ty (bR (aa p.l k) s) []))) (by rw[tQ,lR,ae0,hl1,h180,hS4,h5,hB4];rfl) ⟨hw,td,tb⟩ (fun e=> ?_)
   simp only[spQ] at e;rw[aiP] at e
   exact one _ (by omega) (by omega) (by omega) (mid _ (by rw[if_neg (neI (op8.symm.trans c8))])) _ (by rw[zG (n:=3),hS4,h5,jp e])
 ·
  have hk0:(aa p.l k).k≠0:=neI ((kx 0).symm.trans c0)
  have hk:(aa p.l k).k=1:=eqI ((kx 1).symm.trans c1)
  have hz:=z3 (aeb hx (.inl hk))
  refine am (.z p.ctx::.l p.l::d_Ty (tnth s (aa p.l k).s) [.z (aa p.l k).off,.z (aa p.l k).sz]) (by
   show Dt.z (U4.i 0)::Dt.l (U4.l 1)::(E.tn (.get (.lw 1) (.var 2) 6) 3 9 (.cons (.get (.lw 1) (.var 2) 7) (.cons (.conv .i64 (.get (.lw 1) (.var 2) 3)) .nil))).D U4=_
   rw[lR,hS4,h6,F4.c,F4.l]
   show _::_::d_Ty _ [Dt.z ((E.get (.lw 1) (.var 2) 7).I U4),.z ((E.conv .i64 (.get (.lw 1) (.var 2) 3)).I U4)]=_
   rw[h7,hz]) hl (fun e=> ?_)
  have a3:U4.b 190=ax p.ctx (tnth s (aa p.l k).s) (aa p.l k).off (aa p.l k).sz:=e.1.trans (fQ _)
  clear e
  refine⟨fun cw=> ?_,fun cw=> ?_⟩
  ·have hw:=a3.symm.trans cw
   refine am [.z (aa p.l k).sz] (by
    show[Dt.z ((E.conv .i64 (.get (.lw 1) (.var 2) 3)).I U4)]=_
    rw[hz]) trivial (fun e=> ?_)
   simp only[spQ] at e;rw[show c_wby.F _=_ from aoG _] at e
   have e1:=(aen (ks:=[]) e).1
   refine am (d_Sc (vbyt (aa p.l k).sz) []) (by rw[zH,e1];rfl) trivial (fun e=>px ?_)
   simp only[spQ] at e;rw[show c_jsca.F _=_ from tP _] at e
   have eT:=jp e
   clear e
   refine⟨fun c3=> ?_,fun c3=> ?_⟩
   ·have h3:(tnth s (aa p.l k).s).k=3:=eqI (by rw[<-h6];exact(c3e _).symm.trans c3)
    refine am (d_Sta (sreg s (aa p.l k).d (tsc (vbyt (aa p.l k).sz))) [.z (alo (tnth s (aa p.l k).s) (aa p.l k)),.z (ahi (tnth s (aa p.l k).s) (aa p.l k)),.z (aa p.l k).sz]) (by
     rw[aha (n:=3),hS4,h5,eT]
     show d_Sta _ [Dt.z ((E.bin .add .i64 (.nth (.get (.lw 1) (.var 2) 6) (.sv 10 11)) (.get (.lw 1) (.var 2) 7)).I U4),.z ((E.bin .add .i64 (.nth (.get (.lw 1) (.var 2) 6) (.sv 11 11)) (.get (.lw 1) (.var 2) 7)).I U4),.z ((E.conv .i64 (.get (.lw 1) (.var 2) 3)).I U4)]=_
     rw[hz,lo,hi,h6]) trivial (fun e=> ?_)
    simp only[spQ] at e;rw[amn] at e
    have eL:=al2 e
    have eE:U4.i 215=_:=aiE e
    clear e
    have hv:vmid p (aa p.l k) s=(sreg (sreg s (aa p.l k).d (tsc (vbyt (aa p.l k).sz))) (aa p.l k).d (tyV U4 206),U4.i 215):=by
     unfold vmid
     rw[if_neg hk0,if_pos hk,if_pos hw]
     unfold vld
     rw[if_pos h3,eL,eE]
    refine⟨fun c9=> ?_,fun c9=> ?_⟩
    ·have h0:U4.i 215=0:=eqI c9
     exact one _ (by omega) (by omega) (by omega) (by rw[hv,h0]) _ (by rw[aoC (n:=3),hS4,h5,eT])
    ·have h0:U4.i 215≠0:=neI c9
     show[Dt.l [],.z (U4.i 215)]=[.l (aM p k s).1,.z (aM p k s).2]
     rw[verr _ _ hv h0]
   ·have h3:¬(tnth s (aa p.l k).s).k=3:=neI (by rw[<-h6];exact(c3e _).symm.trans c3)
    exact one _ (by omega) (by omega) (by omega) (by
     unfold vmid
     rw[if_neg hk0,if_pos hk,if_pos hw]
     unfold vld
     rw[if_neg h3]) _ (by rw[zG (n:=3),hS4,h5,eT])
  ·have hw:¬ax p.ctx (tnth s (aa p.l k).s) (aa p.l k).off (aa p.l k).sz=true:=by
    rw[a3.symm.trans cw];simp
   show[Dt.l [],.z 111]=[.l (aM p k s).1,.z (aM p k s).2]
   rw[verr s 111 (by unfold vmid;rw[if_neg hk0,if_pos hk,if_neg hw]) (by decide)]
 ·
  have hk0:(aa p.l k).k≠0:=neI ((kx 0).symm.trans c0)
  have hk1:(aa p.l k).k≠1:=neI ((kx 1).symm.trans c1)
  have hk:(aa p.l k).k=2:=eqI ((kx 2).symm.trans c2)
  have hz:=z3 (aeb hx (.inr hk))
  refine px (am (.z p.ctx::.l p.l::d_Ty (tnth s (aa p.l k).d) [.z (aa p.l k).off,.z (aa p.l k).sz]) (by
   show Dt.z (U4.i 0)::Dt.l (U4.l 1)::(E.tn (.get (.lw 1) (.var 2) 5) 3 9 (.cons (.get (.lw 1) (.var 2) 7) (.cons (.conv .i64 (.get (.lw 1) (.var 2) 3)) .nil))).D U4=_
   rw[lR,hS4,h5,F4.c,F4.l]
   show _::_::d_Ty _ [Dt.z ((E.get (.lw 1) (.var 2) 7).I U4),.z ((E.conv .i64 (.get (.lw 1) (.var 2) 3)).I U4)]=_
   rw[h7,hz]) hl (fun e=> ?_))
  have a3:U4.b 190=ax p.ctx (tnth s (aa p.l k).d) (aa p.l k).off (aa p.l k).sz:=e.1.trans (fQ _)
  clear e
  refine⟨fun cw=> ?_,fun cw=> ?_⟩
  ·have hw:=a3.symm.trans cw
   refine⟨fun c3=> ?_,fun c3=> ?_⟩
   ·have h3:(tnth s (aa p.l k).d).k=3:=eqI (by rw[<-h5];exact(c3e _).symm.trans c3)
    refine am (d_Sta s (.z (alo (tnth s (aa p.l k).d) (aa p.l k))::.z (ahi (tnth s (aa p.l k).d) (aa p.l k))::.z (aa p.l k).sz::d_Ty (tnth s (aa p.l k).s) [])) (by
     rw[rn,hS4]
     show d_Sta _ (Dt.z ((E.bin .add .i64 (.nth (.get (.lw 1) (.var 2) 5) (.sv 10 11)) (.get (.lw 1) (.var 2) 7)).I U4)::.z ((E.bin .add .i64 (.nth (.get (.lw 1) (.var 2) 5) (.sv 11 11)) (.get (.lw 1) (.var 2) 7)).I U4)::.z ((E.conv .i64 (.get (.lw 1) (.var 2) 3)).I U4)::(E.tn (.get (.lw 1) (.var 2) 6) 3 9 .nil).D U4)=_
     rw[lR,hz,lo,hi,hS4,h5,h6];rfl) trivial (fun e=> ?_)
    simp only[spQ] at e;rw[ag8] at e
    have eL:=an8 e
    have eE:U4.i 362=_:=aiF e
    clear e
    have hv:vmid p (aa p.l k) s=(staV U4 191,U4.i 362):=by
     unfold vmid
     rw[if_neg hk0,if_neg hk1,if_pos hk,if_pos hw]
     unfold vsv
     rw[if_pos h3,eL,eE]
    refine⟨fun c9=> ?_,fun c9=> ?_⟩
    ·have h0:U4.i 362=0:=eqI c9
     exact one _ (by omega) (by omega) (by omega) (by rw[hv,h0]) _ (rm _ _)
    ·have h0:U4.i 362≠0:=neI c9
     show[Dt.l [],.z (U4.i 362)]=[.l (aM p k s).1,.z (aM p k s).2]
     rw[verr _ _ hv h0]
   ·have h3:¬(tnth s (aa p.l k).d).k=3:=neI (by rw[<-h5];exact(c3e _).symm.trans c3)
    exact one s (by omega) (by omega) (by omega) (by
     unfold vmid
     rw[if_neg hk0,if_neg hk1,if_pos hk,if_pos hw]
     unfold vsv
     rw[if_neg h3]) _ (by rw[rm,hS4])
  ·have hw:¬ax p.ctx (tnth s (aa p.l k).d) (aa p.l k).off (aa p.l k).sz=true:=by
    rw[a3.symm.trans cw];simp
   show[Dt.l [],.z 111]=[.l (aM p k s).1,.z (aM p k s).2]
   rw[verr s 111 (by unfold vmid;rw[if_neg hk0,if_neg hk1,if_pos hk,if_neg hw]) (by decide)]
 all_goals
  have hk0:(aa p.l k).k≠0:=neI ((kx 0).symm.trans c0)
  have hk1:(aa p.l k).k≠1:=neI ((kx 1).symm.trans c1)
  have hk2:(aa p.l k).k≠2:=neI ((kx 2).symm.trans c2)
 ·
  have hk:(aa p.l k).k=3:=eqI ((kx 3).symm.trans c3)
  have hj:0<=(aa p.l k).d/\(aa p.l k).d<11:=by omega
  refine am (d_Ins (aa p.l k) (.z k::.z (itgt k (aa p.l k)).1::d_Sta s (d_Ty (bR (aa p.l k) s) []))) (by
   rw[tQ,hl1,h180]
   show d_Ins _ (Dt.z (U4.i 2)::.z (U4.i 188)::(E.vs 3 171 (.vs 179 9 .nil)).D U4)=_
   rw[rn,ae0,hS4,hB4,F4.i,t1];rfl) ⟨hj,rfl⟩ (fun e=> ?_)
  simp only[spQ] at e;rw[aeZ] at e
  have eJ:U4.l 190=qO (aa p.l k) k (itgt k (aa p.l k)).1 s (bR (aa p.l k) s):=e.1
  clear e
  show[Dt.l (U4.l 190),.z 0]=_
  rw[hfin s (by unfold vmid;rw[if_neg hk0,if_neg hk1,if_neg hk2,if_neg (by omega)]),eJ]
  unfold gz jQ iY qO
  rw[if_neg (by omega),if_pos (tg (.inl hk)),show((aa p.l k).k==3)=true by rw[hk];rfl,Bool.true_and]
 all_goals have hk3:(aa p.l k).k≠3:=neI ((kx 3).symm.trans c3)
 ·have hk:(aa p.l k).k=4:=eqI ((kx 4).symm.trans c4)
  show[Dt.l ([]++[U4.i 188::(E.vs 3 171 .nil).L U4]),.z 0]=_
  rw[hfin s (by unfold vmid;rw[if_neg hk0,if_neg hk1,if_neg hk2,if_neg (by omega)]),pH (.inl hk),vI (tg (.inr hk)) (tell hk3 _ _),rm,hS4,t1];rfl
 all_goals have hk4:(aa p.l k).k≠4:=neI ((kx 4).symm.trans c4)
 ·have hk:(aa p.l k).k=5:=eqI ((kx 5).symm.trans c5)
  refine am (xs:=[]) rfl trivial (fun e=> ?_)
  have eT:tyV U4 190=ea:=jp e
  exact one _ hk3 hk4 (by omega) (by
   unfold vmid
   rw[if_neg hk0,if_neg hk1,if_neg hk2,if_pos hk]) _ (by rw[amm (n:=3),hS4,eT];rfl)
 ·have hk:(aa p.l k).k=6:=eqI ((kx 6).symm.trans c6)
  show[Dt.l [],.z 0]=_
  rw[hfin s (by unfold vmid;rw[if_neg hk0,if_neg hk1,if_neg hk2,if_neg (by omega)]),pH (.inr hk),pE (by rw[xK (beq_eq_false_iff_ne.2 hk3) (beq_eq_false_iff_ne.2 hk4)])];rfl
 ·have hk5:(aa p.l k).k≠5:=neI ((kx 5).symm.trans c5)
  have hk6:(aa p.l k).k≠6:=neI ((kx 6).symm.trans c6)
  omega
theorem vp {P:Program} {t:Nat} {z:List C} (hk:P.keyTypeAt 7 t=true) (hf:∀vs,aC vs z->(Value.agg vs.toArray).formed P t=true) (D:Nat) (hl:∀vs,aC vs z->P.keyLits D t vs=some (cg vs)) (vs us:List Value) (hv:aC vs z) (hu:aC us z) (w:World):
  (Op.equal t (.agg vs.toArray) (.agg us.toArray)).run P w=.ok (eqVs vs us) w:=by
 obtain⟨r,hr,hiff⟩:=run_equalIn_deep (P:=P) 9993 7 t hk w D D (.agg vs.toArray) (.agg us.toArray) _ _ (hf vs hv) (hf us hu) (by simpa[Value.cells] using hl vs hv) (by simpa[Value.cells] using hl us hu)
 unfold Op.equal Op.maxDepth
 rw[show(10000:Nat)=9993+7 from rfl,hr]
 congr 1
 rw[ao,hiff,mr hv hu]
def ru:List C:=[.int .i64 (.lit 0)]++(pA++[])
theorem agO:Tryz.prog.eqGuardType Tryz.prog.depth 66=false:=by kernel_rfl
theorem aly:Kl Tryz.prog 9 66 ru:=Kl.struct (KlSeq.cons (Kl.int (.lit 0) Tryz.underlying3) (by rfl) (by kernel_rfl) (KlSeq.cons ah3 (by rfl) (by kernel_rfl) (KlSeq.nil _ _ _))) Tryz.underlying66 (by kernel_rfl) (by kernel_rfl)
theorem al0 (vs:List Value) (hv:aC vs ru):(Value.agg vs.toArray).formed Tryz.prog 66=true:=tv Tryz.underlying66 (by kernel_rfl) vs hv
theorem al3 (vs us:List Value) (hv:aC vs ru) (hu:aC us ru) (w:World):(Op.equal 66 (.agg vs.toArray) (.agg us.toArray)).run Tryz.prog w=.ok (eqVs vs us) w:=
 vp (by kernel_rfl) al0 9 (fun vs hv=>aly vs hv) vs us hv hu w
def aaF:List (Nat×TI):=[(2,tiq2),
 (3,tiq3),
 (37,dS),
 (42,dR),
 (44,ew),
 (46,fR),
 (48,cK),
 (50,jT),
 (51,mK),
 (52,mJ),
 (54,lS),
 (55,afp),
 (66,⟨true,172,(zN 172 2211221102211221102211221102211221102211221102211221102211221102211221102211221102211221102211221102211221102211221102211221102211221102211221102211221102211221102211221102),[(0,3),(1,54)],none,none,true,false,none,1376,false,none,false,0⟩)]
theorem aas:∀t i,(t,i)∈aaF->TIok Tryz.prog t i:=aV (fac (z:=z_Sc) ⟨kG,fN⟩<|fac (z:=z_Ty) ⟨kF,fM⟩<|fac (z:=pA) ⟨xU,qQ⟩<|fac (z:=ru) ⟨al3,agO⟩ fa0) fa0 (by kernel_rfl)
def mj:List Dt->Prop
 | [.l x0,.l x1]=>let f (a:List (List Int)) (b:List (List Int)):Prop:=a=b/\a.length<=maxLen;f x0 x1
 | _=>False
def c_jsame:Cd:=⟨17,[.one (.sl (kN 172 2211221102211221102211221102211221102211221102211221102211221102211221102211221102211221102211221102211221102211221102211221102211221102211221102211221102211221102211221102) 66),.one (.sl (kN 172 2211221102211221102211221102211221102211221102211221102211221102211221102211221102211221102211221102211221102211221102211221102211221102211221102211221102211221102211221102) 66)],[.one .bool],rdL fun a=>rdL fun b _=>[.z (b2i true)],mj⟩
def qf:Tr:=
(.br (.eq (.len (.lw 0)) (.len (.lw 1)))
(.loop 0 2 [.int .i64] (.cons (.lit 0) .nil)
(.br (.lt (.var 2) (.len (.lw 0)))
(.br (.lt (.var 2) (.lit 0))
.panic
(.br (.lt (.var 2) (.len (.lw 1)))
(.br (.leq (.lq .ln (.gs (.lw 0) (.var 2) 0 172 .nil)) (.lq .ln (.gs (.lw 1) (.var 2) 0 172 .nil)))
(.next 0 (.cons (.bin .add .i64 (.var 2) (.lit 1)) .nil))
 zlF)
.panic))
 zlT))
 zlF)
theorem afX:bp aaF (smN 0 []) [] [(4,[.tmpI 5 .i64]++tps [(4,1),(11,15)]),(999999,[])] [] 200 Tryz.f17 c_jsame.a c_jsame.r (tp c_jsame.r) [.list (kN 172 2211221102211221102211221102211221102211221102211221102211221102211221102211221102211221102211221102211221102211221102211221102211221102211221102211221102211221102211221102),.list (kN 172 2211221102211221102211221102211221102211221102211221102211221102211221102211221102211221102211221102211221102211221102211221102211221102211221102211221102211221102211221102)] qf:=trI (by kernel_rfl)
theorem gs_L {U:Env} {l l' i:E} (h:l.R U=l'.R U):∀(k c:Nat),(E.gs l i c k .nil).L U=(E.gs l' i c k .nil).L U
 | 0,_=>rfl
 | k+1,c=>by
   show(E.get l i c).I U::(E.gs l i (c+1) k .nil).L U=(E.get l' i c).I U::(E.gs l' i (c+1) k .nil).L U
   rw[gs_L h k (c+1)]
   simp only[E.I,h]
theorem alM:c_jsame.Ok Tryz.prog:=
 okc (hl:=.inr (.inl ⟨(fun xs (h:mj xs) L hL=>by unfold mj at h;split at h<;>first | exact h.elim | (simp at hL;rcases hL with rfl | rfl;exact h.2;rw[<-h.1];exact h.2)),rfl⟩)) qf [.list (kN 172 2211221102211221102211221102211221102211221102211221102211221102211221102211221102211221102211221102211221102211221102211221102211221102211221102211221102211221102211221102),.list (kN 172 2211221102211221102211221102211221102211221102211221102211221102211221102211221102211221102211221102211221102211221102211221102211221102211221102211221102211221102211221102)] aas ol0 Tryz.func17 fn0 afX<|fun a ha b hb hp U g=>by
 obtain⟨rfl,hl⟩:a=b/\a.length<=maxLen:=hp
 have g0:U.l 0=a/\U.l 1=a:=by
  simp only[varsD,varD,thm5,Dt.l.injEq,and_true,Nat.reduceAdd] at g
  exact g
 unfold qf
 refine⟨fun _=> ?_,fun c=> ?_⟩
 rotate_left
 ·simp only[E.B,E.I,E.R,g0.1,g0.2] at c
  simp at c
 refine⟨fun ds=>∃n:Nat,ds=[.z (n:Int)]/\n<=a.length,fun ds=>a.length-(dI ds 0).toNat,⟨0,rfl,Nat.zero_le _⟩,?_⟩
 intro U1 ha1 _ hi1
 obtain⟨n,hds,hn⟩:=hi1
 have q0:U1.l 0=a:=(ha1 0 (by decide)).2.2.symm.trans g0.1
 have q1:U1.l 1=a:=(ha1 1 (by decide)).2.2.symm.trans g0.2
 rw[show varsD U1 2 [.int .i64]=[.z (U1.i 2)] from rfl] at hds ⊢
 simp only[thm5,Dt.z.injEq,and_true] at hds
 refine⟨fun c=>⟨fun c1=> ?_,fun _=>⟨fun _=>⟨fun _=>aI ?_,fun c2=> ?_⟩,fun c1=> ?_⟩⟩,fun _=>rfl⟩
 all_goals
  have hn2:n<a.length:=by
   simp only[E.B,E.I,E.R,q0,hds] at c
   have:=thm3 c
   omega
 ·simp only[E.B,E.I,hds] at c1
  have:=thm3 c1
  omega
 ·have iE:(E.bin .add .i64 (.var 2) (.lit 1)).I U1=((n+1:Nat):Int):=by
   simp only[E.I,hds];exact addN hn2 hl
  refine⟨⟨n+1,by simp only[E.D,iE],hn2⟩,?_⟩
  show a.length-((E.bin .add .i64 (.var 2) (.lit 1)).I U1).toNat<a.length-(U1.i 2).toNat
  rw[iE,hds];omega
 ·have:(E.leq (.lq .ln (.gs (.lw 0) (.var 2) 0 172 .nil)) (.lq .ln (.gs (.lw 1) (.var 2) 0 172 .nil))).B U1=true:=by
   show([]++[(E.gs (.lw 0) (.var 2) 0 172 .nil).L U1]==[]++[(E.gs (.lw 1) (.var 2) 0 172 .nil).L U1])=true
   rw[gs_L (U:=U1) (l:=.lw 0) (l':=.lw 1) (q0.trans q1.symm)]
   simp
  rw[this] at c2;cases c2
 ·simp only[E.B,E.I,E.R,q1,hds] at c1
  have:=thm2 c1
  omega
def kSt:List CE:=[some Go.IntKind.i8,some Go.IntKind.u64,some Go.IntKind.u64,some Go.IntKind.i64,some Go.IntKind.i64,some Go.IntKind.u64,some Go.IntKind.u64,some Go.IntKind.i64,some Go.IntKind.i64,some Go.IntKind.i8,some Go.IntKind.u64,some Go.IntKind.u64,some Go.IntKind.i64,some Go.IntKind.i64,some Go.IntKind.u64,some Go.IntKind.u64,some Go.IntKind.i64,some Go.IntKind.i64,some Go.IntKind.i8,some Go.IntKind.u64,some Go.IntKind.u64,some Go.IntKind.i64,some Go.IntKind.i64,some Go.IntKind.u64,some Go.IntKind.u64,some Go.IntKind.i64,some Go.IntKind.i64,some Go.IntKind.i8,some Go.IntKind.u64,some Go.IntKind.u64,some Go.IntKind.i64,some Go.IntKind.i64,some Go.IntKind.u64,some Go.IntKind.u64,some Go.IntKind.i64,some Go.IntKind.i64,some Go.IntKind.i8,some Go.IntKind.u64,some Go.IntKind.u64,some Go.IntKind.i64,some Go.IntKind.i64,some Go.IntKind.u64,some Go.IntKind.u64,some Go.IntKind.i64,some Go.IntKind.i64,some Go.IntKind.i8,some Go.IntKind.u64,some Go.IntKind.u64,some Go.IntKind.i64,some Go.IntKind.i64,some Go.IntKind.u64,some Go.IntKind.u64,some Go.IntKind.i64,some Go.IntKind.i64,some Go.IntKind.i8,some Go.IntKind.u64,some Go.IntKind.u64,some Go.IntKind.i64,some Go.IntKind.i64,some Go.IntKind.u64,some Go.IntKind.u64,some Go.IntKind.i64,some Go.IntKind.i64,some Go.IntKind.i8,some Go.IntKind.u64,some Go.IntKind.u64,some Go.IntKind.i64,some Go.IntKind.i64,some Go.IntKind.u64,some Go.IntKind.u64,some Go.IntKind.i64,some Go.IntKind.i64,some Go.IntKind.i8,some Go.IntKind.u64,some Go.IntKind.u64,some Go.IntKind.i64,some Go.IntKind.i64,some Go.IntKind.u64,some Go.IntKind.u64,some Go.IntKind.i64,some Go.IntKind.i64,some Go.IntKind.i8,some Go.IntKind.u64,some Go.IntKind.u64,some Go.IntKind.i64,some Go.IntKind.i64,some Go.IntKind.u64,some Go.IntKind.u64,some Go.IntKind.i64,some Go.IntKind.i64,some Go.IntKind.i8,some Go.IntKind.u64,some Go.IntKind.u64,some Go.IntKind.i64,some Go.IntKind.i64,some Go.IntKind.u64,some Go.IntKind.u64,some Go.IntKind.i64,some Go.IntKind.i64,some Go.IntKind.i8,some Go.IntKind.u64,some Go.IntKind.u64,some Go.IntKind.i64,some Go.IntKind.i64,some Go.IntKind.u64,some Go.IntKind.u64,some Go.IntKind.i64,some Go.IntKind.i64,some Go.IntKind.i8,some Go.IntKind.u64,some Go.IntKind.u64,some Go.IntKind.i64,some Go.IntKind.i64,some Go.IntKind.u64,some Go.IntKind.u64,some Go.IntKind.i64,some Go.IntKind.i64,some Go.IntKind.i8,some Go.IntKind.u64,some Go.IntKind.u64,some Go.IntKind.i64,some Go.IntKind.i64,some Go.IntKind.u64,some Go.IntKind.u64,some Go.IntKind.i64,some Go.IntKind.i64,some Go.IntKind.i8,some Go.IntKind.u64,some Go.IntKind.u64,some Go.IntKind.i64,some Go.IntKind.i64,some Go.IntKind.u64,some Go.IntKind.u64,some Go.IntKind.i64,some Go.IntKind.i64,some Go.IntKind.i8,some Go.IntKind.u64,some Go.IntKind.u64,some Go.IntKind.i64,some Go.IntKind.i64,some Go.IntKind.u64,some Go.IntKind.u64,some Go.IntKind.i64,some Go.IntKind.i64,some Go.IntKind.i8,some Go.IntKind.u64,some Go.IntKind.u64,some Go.IntKind.i64,some Go.IntKind.i64,some Go.IntKind.u64,some Go.IntKind.u64,some Go.IntKind.i64,some Go.IntKind.i64,some Go.IntKind.i8,some Go.IntKind.u64,some Go.IntKind.u64,some Go.IntKind.i64,some Go.IntKind.i64,some Go.IntKind.u64,some Go.IntKind.u64,some Go.IntKind.i64,some Go.IntKind.i64,some Go.IntKind.i8,some Go.IntKind.u64,some Go.IntKind.u64,some Go.IntKind.i64,some Go.IntKind.i64,some Go.IntKind.u64,some Go.IntKind.u64,some Go.IntKind.i64,some Go.IntKind.i64]
def lSt:List (List Int):=[[0,0,0,0,0,0,0,0,0,2,0,0,0,0,0,0,0,0,0,0,0,0,0,0,0,0,0,0,0,0,0,0,0,0,0,0,0,0,0,0,0,0,0,0,0,0,0,0,0,0,0,0,0,0,0,0,0,0,0,0,0,0,0,0,0,0,0,0,0,0,0,0,0,0,0,0,0,0,0,0,0,0,0,0,0,0,0,0,0,0,3,0,0,0,0,0,0,64,64,1,0,0,0,0,0,0,0,0,1,0,0,0,0,0,0,0,0,1,0,0,0,0,0,0,0,0,1,0,0,0,0,0,0,0,0,1,0,0,0,0,0,0,0,0,1,0,0,0,0,0,0,0,0,1,0,0,0,0,0,0,0,0,1,0,0,0,0,0,0,0,0],[1,0,0,0,0,0,0,0,0,2,0,0,0,0,0,0,0,0,0,0,0,0,0,0,0,0,0,0,0,0,0,0,0,0,0,0,0,0,0,0,0,0,0,0,0,0,0,0,0,0,0,0,0,0,0,0,0,0,0,0,0,0,0,0,0,0,0,0,0,0,0,0,0,0,0,0,0,0,0,0,0,0,0,0,0,0,0,0,0,0,3,0,0,0,0,0,0,64,64,1,0,0,0,0,0,0,0,0,1,0,0,0,0,0,0,0,0,1,0,0,0,0,0,0,0,0,1,0,0,0,0,0,0,0,0,1,0,0,0,0,0,0,0,0,1,0,0,0,0,0,0,0,0,1,0,0,0,0,0,0,0,0,1,0,0,0,0,0,0,0,0]]
theorem bV {p q q2:Prop} (k:q2) (h:p->q=q2:=by intro e;(try simp only[e,bj,bm,ai,ap,-eq_self]);rfl):p->q:=fun e=>(h e).symm▸k
def kR:List (Nat×TI):=[(2,tiq2),
 (3,tiq3),
 (4,tiq4),
 (22,rI),
 (24,rH),
 (27,yz),
 (30,⟨false,1,[.nsl],[],none,none,false,false,some 4,24,false,none,false,0⟩),
 (31,⟨false,1,[.nsl],[],none,none,false,false,some 54,24,false,none,false,0⟩),
 (33,⟨true,2,[.nsl,.nsl],[(0,30),(1,31)],none,none,false,false,none,48,false,none,false,0⟩),
 (37,dS),
 (39,lO),
 (42,dR),
 (44,ew),
 (46,fR),
 (48,cK),
 (50,jT),
 (51,mK),
 (52,mJ),
 (54,uf),
 (66,afo),
 (70,aki),
 (92,⟨false,1,[.np],[],none,none,false,false,none,8,false,none,false,1⟩),
 (93,⟨true,64,[.np,.np,.np,.np,.np,.np,.np,.np,.np,.np,.np,.np,.np,.np,.np,.np,.np,.np,.np,.np,.np,.np,.np,.np,.np,.np,.np,.np,.np,.np,.np,.np,.np,.np,.np,.np,.np,.np,.np,.np,.np,.np,.np,.np,.np,.np,.np,.np,.np,.np,.np,.np,.np,.np,.np,.np,.np,.np,.np,.np,.np,.np,.np,.np],[],some (64,92),none,false,false,none,512,false,none,false,0⟩),
 (94,⟨true,64,(zN 64 2222222222222222222222222222222222222222222222222222222222222222),[],some (64,3),none,false,false,none,512,false,none,false,0⟩),
 (95,⟨true,1,[.int .u64 (.lit 0)],[],some (1,42),none,false,false,none,8,false,none,false,0⟩),
 (105,jd),
 (145,aho),
 (149,ahn),
 (151,ahm),
 (167,aaX)]
theorem gc:∀t i,(t,i)∈kR->TIok Tryz.prog t i:=aV (fac (z:=iX) ⟨gQ,eD⟩<|fac (z:=z_Sc) ⟨kG,fN⟩<|fac (z:=z_Ty) ⟨kF,fM⟩ fa0) fa0 (by kernel_rfl)
def c_vwiD:Cd:=⟨18,[.agg [.lit .i64 4,.rl (kN 9 220090000) 39 [[1,0,0,8,0,0,1,0,0],[6,0,0,0,0,0,0,0,0]]],.agg [.lit .i8 2,.lit .u64 0,.lit .u64 0,.lit .i64 0,.lit .i64 0,.lit .u64 0,.lit .u64 0,.lit .i64 0,.lit .i64 0],.one (.lit .i64 0),.one (.lit .i64 8)],[.one .bool],fun _=>[.z (b2i false)],T0⟩
def uw:Tr:=
 zlF
theorem akI:bp kR (smN 0 []) [(53,Tryz.f53,[],[]),(55,Tryz.f55,[],[]),(54,Tryz.f54,[],[]),(107,Tryz.f107,[],[])] [] [] 200 Tryz.f18 c_vwiD.a c_vwiD.r (tp c_vwiD.r) [] uw:=trI (by kernel_rfl)
theorem adK:c_vwiD.Ok Tryz.prog:=
 okc uw [] gc ol0 Tryz.func18 (fnc Tryz.func53 (fnc Tryz.func55 (fnc Tryz.func54 (fnc Tryz.func107 fn0)))) akI<|fun hp U g=>by
 simp only[uw,spQ,rdZ,rdB,rdL,c_vwiD,simQ,ab,S1,Nat.reduceSub,Nat.reduceAdd,-eq_self,bj,bm,ai,ap]
 ·rfl
def qn (key:Nat):Sm:=⟨12,key,[.agg [.lit .i64 0,.rl (kN 9 220090000) 39 [[0,11,64,0,0,0,0,0,0],[6,0,0,0,0,0,0,0,0]]]],[.agg [.sl [none] 4,.sl kSt 54],.one (.int .i64),.one (.int .i64)],true⟩
def kf:List Dt->List Dt
 | []=>[.l [[1],[1]],.l lSt,.z 0,.z 0]
 | _=>[]
def zQ:E:=(.zs [6,0,0,0] (.consb (.tt false) (.zs [0,0,0,0] .nil)))
def zR:E:=(.zs [0,11,64,0] (.consb (.tt false) (.zs [0,0,0,0] .nil)))
def zS:E:=(.lq .ln zR)
def qc:Tr:=
(.call 0 [.int .i64,.int .i64] (.cons (.lit 0) (.cL (.lq zS zQ) .nil)) 0
(.br (.and (.eq (.var 1) (.lit 0)) (.and (.eq (.var 0) (.lit 0)) (.tt true)))
(.call 1 (kSta) .nil 2
(.br (.pv 172 [0,0,0,0,0,0,0,0,1,0,0,0,0,0,0,0,0,1,0,0,0,0,0,0,0,0,1,0,0,0,0,0,0,0,0,1,0,0,0,0,0,0,0,0,1,0,0,0,0,0,0,0,0,1,0,0,0,0,0,0,0,0,1,0,0,0,0,0,0,0,0,1,64,64,0,0,0,0,0,0,3,0,0,0,0,0,0,0,0,0,0,0,0,0,0,0,0,0,0,0,0,0,0,0,0,0,0,0,0,0,0,0,0,0,0,0,0,0,0,0,0,0,0,0,0,0,0,0,0,0,0,0,0,0,0,0,0,0,0,0,0,0,0,0,0,0,0,0,0,0,0,0,0,0,0,0,0,0,0,0,0,2,0,0,0,0,0,0,0,0,0] (.tt true))
(.call 2 [.int .i64] (.cons (.lit 1) .nil) 173
(.br (.eq (.var 173) (.lit 0))
(.call 3 [.int .i64] zR 174
(.br (.eq (.var 174) (.lit 0))
(.call 6 (kSc) (.cons (.lit 0) .nil) 175
(.br (.pv 180 [0,0,0,0,0,0] (.tt true))
(.call 5 [.int .i64,.bool] (.zs [0,0,11,64,0] (.consb (.tt false) (.zs [0,0,0,0] .nil))) 181
(.br (.and (.beq (.bw 182) (.tt false)) (.and (.eq (.var 181) (.lit 0)) (.tt true)))
(.call 8 (kTy) (.cL zS (.zs [0,0,0,0,0,0,0,0,0,1,0,0,0,0,0,0,0,0] .nil)) 183
(.br (.pv 191 [0,0,0,0,0,0,0,0,1] (.tt true))
(.call 7 [.int .i8,.bool] (.cons (.lit 11) .nil) 192
(.call 2 [.int .i64] (.cons (.lit 2) .nil) 194
(.br (.eq (.var 194) (.lit 1))
(.call 3 [.int .i64] zQ 195
(.br (.eq (.var 195) (.lit 1))
(.call 4 [.int .i64] (.cons (.lit 1) .nil) 196
(.br (.eq (.var 196) (.lit 0))
(.br (.pv 180 [0,0,0,0,0,0] (.tt true))
(.call 5 [.int .i64,.bool] (.zs [1,6,0,0,0] (.consb (.tt false) (.zs [0,0,0,0] .nil))) 197
(.br (.and (.beq (.bw 198) (.tt false)) (.and (.eq (.var 197) (.lit 0)) (.tt true)))
(.call 7 [.int .i8,.bool] (.cons (.lit 0) .nil) 199
(.leaf (.cL (.lq (.lq .ln (.consb (.tt true) .nil)) (.consb (.tt true) .nil)) (.cL (.lq (.lq .ln (.zs [0,0,0,0,0,0,0,0,0,2,0,0,0,0,0,0,0,0,0,0,0,0,0,0,0,0,0,0,0,0,0,0,0,0,0,0,0,0,0,0,0,0,0,0,0,0,0,0,0,0,0,0,0,0,0,0,0,0,0,0,0,0,0,0,0,0,0,0,0,0,0,0,0,0,0,0,0,0,0,0,0,0,0,0,0,0,0,0,0,0,3,0,0,0,0,0,0,64,64,1,0,0,0,0,0,0,0,0,1,0,0,0,0,0,0,0,0,1,0,0,0,0,0,0,0,0,1,0,0,0,0,0,0,0,0,1,0,0,0,0,0,0,0,0,1,0,0,0,0,0,0,0,0,1,0,0,0,0,0,0,0,0,1,0,0,0,0,0,0,0,0] .nil)) (.zs [1,0,0,0,0,0,0,0,0,2,0,0,0,0,0,0,0,0,0,0,0,0,0,0,0,0,0,0,0,0,0,0,0,0,0,0,0,0,0,0,0,0,0,0,0,0,0,0,0,0,0,0,0,0,0,0,0,0,0,0,0,0,0,0,0,0,0,0,0,0,0,0,0,0,0,0,0,0,0,0,0,0,0,0,0,0,0,0,0,0,3,0,0,0,0,0,0,64,64,1,0,0,0,0,0,0,0,0,1,0,0,0,0,0,0,0,0,1,0,0,0,0,0,0,0,0,1,0,0,0,0,0,0,0,0,1,0,0,0,0,0,0,0,0,1,0,0,0,0,0,0,0,0,1,0,0,0,0,0,0,0,0,1,0,0,0,0,0,0,0,0] .nil)) (.cons (.lit 0) (.cons (.lit 0) .nil))))))
(.stuck 260)))
(.stuck 260))
(.stuck 260)))
(.stuck 260)))
(.stuck 260))))
(.stuck 260)))
(.stuck 260)))
(.stuck 260)))
(.stuck 260)))
(.stuck 260)))
(.stuck 260)))
(.stuck 260)))
def wM:Spec:={F:=fun k=>match k with | 0=>c_icheck.F | 1=>c_tfirst.F | 2=>fV | 3=>c_vrd.F | 4=>oy | 5=>c_itgt.F | 6=>c_vone.F | 7=>c_bnot.F | 8=>c_valu.F | 9=>c_vwiD.F | _=>fun _=>[],pre:=fun k=>match k with | 0=>cV | 8=>fl | _=>fun _=>True,hw:=sHw,hx:=sHx,hi:=sHi}
def bO:List (Nat×List Pl):=[((800000+11),[.only [0],.only [0,0],.only [4],.only [0,0]]),((800000+32),[.only [],.only [0,0,0,0,0,0,0,0,0,2,0,0,0,0,0,0,0,0,0,0,0,0,0,0,0,0,0,0,0,0,0,0,0,0,0,0,0,0,0,0,0,0,0,0,0,0,0,0,0,0,0,0,0,0,0,0,0,0,0,0,0,0,0,0,0,0,0,0,0,0,0,0,0,0,0,0,0,0,0,0,0,0,0,0,0,0,0,0,0,0,3,0,0,0,0,0,0,64,64,1,0,0,0,0,0,0,0,0,1,0,0,0,0,0,0,0,0,1,0,0,0,0,0,0,0,0,1,0,0,0,0,0,0,0,0,1,0,0,0,0,0,0,0,0,1,0,0,0,0,0,0,0,0,1,0,0,0,0,0,0,0,0,1,0,0,0,0,0,0,0,0]]),((800000+76),[.only [0],.only [0,0,0,0,0,0]]),((800000+13),[.only [0,11,64,0,0,0,0,0,0],.only [0],.only [6,0,0,0,0,0,0,0,0],.only [1],.only [1,0,0,8,0,0,1,0,0],.only [2]]),((800000+36),[.only [0,0,11,64,0,0,0,0,0,0],.only [0,0],.only [1,6,0,0,0,0,0,0,0,0],.only [0,0]]),((800000+77),[.only [1],.only [0],.only [2],.only [1]]),((800000+37),[.only [1],.only [0],.only [2],.only [1]]),((800000+79),[.only [],.only [1,0,0,0,0,0,0,0,0]]),((800000+18),[.only [],.only [0]])]
theorem afU:bp kR [c_icheck.m 0,c_tfirst.m 1,nc 2,c_vrd.m 3,yJ 4,c_itgt.m 5,c_vone.m 6,c_bnot.m 7,c_valu.m 8,c_vwiD.m 9] [(38,Tryz.f38,[]++bO,[]),(86,Tryz.f86,[]++bO,[]),(87,Tryz.f87,[]++bO,[]),(78,Tryz.f78,[]++bO,[]),(80,Tryz.f80,[]++bO,[])] ([]++bO) [] 200 Tryz.f12 [.agg [.lit .i64 0,.rl (kN 9 220090000) 39 [[0,11,64,0,0,0,0,0,0],[6,0,0,0,0,0,0,0,0]]]] [.agg [.sl [none] 4,.sl kSt 54],.one (.int .i64),.one (.int .i64)] true [] qc:=trI (by kernel_rfl)
theorem afM:Cn qc wM [] [] kf:=by
 intro U g
 simp only[qc,zS,zR,zQ,wM,spQ,c_icheck,c_tfirst,c_vrd,c_itgt,c_vone,c_bnot,c_valu,c_vwiD,rdZ,rdB,rdL,fV,oy,mV,abv,kf,cV,fl,cC,eU,q_Ty,dd,q_Sc,simQ,ab,S1,Nat.reduceSub,Nat.reduceAdd,-eq_self,bj,bm,ai,ap]
 refine⟨?_,?_⟩
 ·exact Nat.le_of_ble_eq_true (by kernel_rfl)
 refine bV ?_
 constructor<;>intro c0
 refine bV ?_
 constructor<;>intro c1
 refine bV ?_
 constructor<;>intro c2
 refine bV ?_
 constructor<;>intro c3
 refine bV ?_
 constructor<;>intro c4
 refine bV ?_
 constructor<;>intro c5
 refine⟨?_,?_⟩
 ·exact rfl
 refine bV ?_
 constructor<;>intro c6
 refine bV ?_
 refine bV ?_
 constructor<;>intro c7
 refine bV ?_
 constructor<;>intro c8
 refine bV ?_
 constructor<;>intro c9
 constructor<;>intro c10
 refine bV ?_
 constructor<;>intro c11
 refine bV ?_
 ·rfl
 ·exact Bool.eq_false_iff.1 c11 (by kernel_rfl)
 ·exact Bool.eq_false_iff.1 c10 (by kernel_rfl)
 ·exact Bool.eq_false_iff.1 c9 (by kernel_rfl)
 ·exact Bool.eq_false_iff.1 c8 (by kernel_rfl)
 ·exact Bool.eq_false_iff.1 c7 (by kernel_rfl)
 ·exact Bool.eq_false_iff.1 c6 (by kernel_rfl)
 ·exact Bool.eq_false_iff.1 c5 (by kernel_rfl)
 ·exact Bool.eq_false_iff.1 c4 (by kernel_rfl)
 ·exact Bool.eq_false_iff.1 c3 (by kernel_rfl)
 ·exact Bool.eq_false_iff.1 c2 (by kernel_rfl)
 ·exact Bool.eq_false_iff.1 c1 (by kernel_rfl)
 ·exact Bool.eq_false_iff.1 c0 (by kernel_rfl)
theorem af6 {sp:Spec} {key:Nat} (hF:sp.F key=kf) (hP:sp.pre key=fun _=>True:=by rfl) (hH:∀w,sp.hw w->sHw w:=by exact fun _ h=>h):SmOk Tryz.prog sp (qn key):=
 nS (s:=qn key) (hW:=hH) hF hP (by kernel_rfl) gc (smc (mu rfl rfl)<|smc (qM rfl rfl)<|smc (qo rfl)<|smc (adM rfl rfl)<|smc (af7 rfl)<|smc (tk rfl rfl)<|smc (nI rfl rfl)<|smc (xJ rfl rfl)<|smc (xD rfl rfl)<|smc (adK rfl rfl) sm0) Tryz.func12 (fnc Tryz.func38 (fnc Tryz.func86 (fnc Tryz.func87 (fnc Tryz.func78 (fnc Tryz.func80 fn0))))) afU (.inl rfl) (fun hp=>afM)
def qm (key:Nat):Sm:=⟨12,key,[.agg [.lit .i64 0,.rl (kN 9 220090000) 39 [[6,0,0,0,0,0,0,0,0]]]],[.agg [.sl [none] 4,.sl kSt 54],.one (.int .i64),.one (.int .i64)],true⟩
def ke:List Dt->List Dt
 | []=>[.l [],.l [],.z 0,.z 110]
 | _=>[]
def zP:E:=(.zs [6,0,0,0] (.consb (.tt false) (.zs [0,0,0,0] .nil)))
def qb:Tr:=
(.call 0 [.int .i64,.int .i64] (.cons (.lit 0) (.cL (.lq .ln zP) .nil)) 0
(.br (.and (.eq (.var 1) (.lit 0)) (.and (.eq (.var 0) (.lit 0)) (.tt true)))
(.call 1 (kSta) .nil 2
(.br (.pv 172 [0,0,0,0,0,0,0,0,1,0,0,0,0,0,0,0,0,1,0,0,0,0,0,0,0,0,1,0,0,0,0,0,0,0,0,1,0,0,0,0,0,0,0,0,1,0,0,0,0,0,0,0,0,1,0,0,0,0,0,0,0,0,1,0,0,0,0,0,0,0,0,1,64,64,0,0,0,0,0,0,3,0,0,0,0,0,0,0,0,0,0,0,0,0,0,0,0,0,0,0,0,0,0,0,0,0,0,0,0,0,0,0,0,0,0,0,0,0,0,0,0,0,0,0,0,0,0,0,0,0,0,0,0,0,0,0,0,0,0,0,0,0,0,0,0,0,0,0,0,0,0,0,0,0,0,0,0,0,0,0,0,2,0,0,0,0,0,0,0,0,0] (.tt true))
(.call 2 [.int .i64] (.cons (.lit 1) .nil) 173
(.br (.eq (.var 173) (.lit 0))
(.call 3 [.int .i64] zP 174
(.br (.eq (.var 174) (.lit 1))
(.call 4 [.int .i64] (.cons (.lit 1) .nil) 175
(.br (.eq (.var 175) (.lit 0))
(.leaf (.cL .ln (.cL .ln (.cons (.lit 0) (.cons (.lit 110) .nil)))))
(.stuck 260)))
(.stuck 260)))
(.stuck 260)))
(.stuck 260)))
(.stuck 260)))
def wL:Spec:={F:=fun k=>match k with | 0=>c_icheck.F | 1=>c_tfirst.F | 2=>fV | 3=>c_vrd.F | 4=>oy | 5=>c_itgt.F | 6=>c_vone.F | 7=>c_bnot.F | 8=>c_valu.F | 9=>c_vwiD.F | _=>fun _=>[],pre:=fun k=>match k with | 0=>cV | 8=>fl | _=>fun _=>True,hw:=sHw,hx:=sHx,hi:=sHi}
theorem afT:bp kR [c_icheck.m 0,c_tfirst.m 1,nc 2,c_vrd.m 3,yJ 4,c_itgt.m 5,c_vone.m 6,c_bnot.m 7,c_valu.m 8,c_vwiD.m 9] [(38,Tryz.f38,[]++bO,[]),(86,Tryz.f86,[]++bO,[]),(87,Tryz.f87,[]++bO,[]),(78,Tryz.f78,[]++bO,[]),(80,Tryz.f80,[]++bO,[])] ([]++bO) [] 200 Tryz.f12 [.agg [.lit .i64 0,.rl (kN 9 220090000) 39 [[6,0,0,0,0,0,0,0,0]]]] [.agg [.sl [none] 4,.sl kSt 54],.one (.int .i64),.one (.int .i64)] true [] qb:=trI (by kernel_rfl)
theorem afL:Cn qb wL [] [] ke:=by
 intro U g
 simp only[qb,zP,wL,spQ,c_icheck,c_tfirst,c_vrd,c_itgt,c_vone,c_bnot,c_valu,c_vwiD,rdZ,rdB,rdL,fV,oy,mV,abv,ke,cV,fl,cC,eU,q_Ty,dd,q_Sc,simQ,ab,S1,Nat.reduceSub,Nat.reduceAdd,-eq_self,bj,bm,ai,ap]
 refine⟨?_,?_⟩
 ·exact Nat.le_of_ble_eq_true (by kernel_rfl)
 refine bV ?_
 constructor<;>intro c0
 refine bV ?_
 constructor<;>intro c1
 refine bV ?_
 constructor<;>intro c2
 refine bV ?_
 constructor<;>intro c3
 refine bV ?_
 constructor<;>intro c4
 ·rfl
 ·exact Bool.eq_false_iff.1 c4 (by kernel_rfl)
 ·exact Bool.eq_false_iff.1 c3 (by kernel_rfl)
 ·exact Bool.eq_false_iff.1 c2 (by kernel_rfl)
 ·exact Bool.eq_false_iff.1 c1 (by kernel_rfl)
 ·exact Bool.eq_false_iff.1 c0 (by kernel_rfl)
theorem af5 {sp:Spec} {key:Nat} (hF:sp.F key=ke) (hP:sp.pre key=fun _=>True:=by rfl) (hH:∀w,sp.hw w->sHw w:=by exact fun _ h=>h):SmOk Tryz.prog sp (qm key):=
 nS (s:=qm key) (hW:=hH) hF hP (by kernel_rfl) gc (smc (mu rfl rfl)<|smc (qM rfl rfl)<|smc (qo rfl)<|smc (adM rfl rfl)<|smc (af7 rfl)<|smc (tk rfl rfl)<|smc (nI rfl rfl)<|smc (xJ rfl rfl)<|smc (xD rfl rfl)<|smc (adK rfl rfl) sm0) Tryz.func12 (fnc Tryz.func38 (fnc Tryz.func86 (fnc Tryz.func87 (fnc Tryz.func78 (fnc Tryz.func80 fn0))))) afT (.inl rfl) (fun hp=>afL)
def ql (key:Nat):Sm:=⟨12,key,[.agg [.lit .i64 4,.rl (kN 9 220090000) 39 [[1,0,0,8,0,0,1,0,0],[6,0,0,0,0,0,0,0,0]]]],[.agg [.sl [none] 4,.sl kSt 54],.one (.int .i64),.one (.int .i64)],true⟩
def jZ:List Dt->List Dt
 | []=>[.l [],.l [],.z 0,.z 111]
 | _=>[]
def zO:E:=(.zs [1,0,0,8] (.consb (.tt false) (.zs [0,1,0,0] .nil)))
def qa:Tr:=
(.call 0 [.int .i64,.int .i64] (.cons (.lit 4) (.cL (.lq (.lq .ln zO) (.zs [6,0,0,0] (.consb (.tt false) (.zs [0,0,0,0] .nil)))) .nil)) 0
(.br (.and (.eq (.var 1) (.lit 0)) (.and (.eq (.var 0) (.lit 0)) (.tt true)))
(.call 1 (kSta) .nil 2
(.br (.pv 172 [0,0,0,0,0,0,0,0,1,0,0,0,0,0,0,0,0,1,0,0,0,0,0,0,0,0,1,0,0,0,0,0,0,0,0,1,0,0,0,0,0,0,0,0,1,0,0,0,0,0,0,0,0,1,0,0,0,0,0,0,0,0,1,0,0,0,0,0,0,0,0,1,64,64,0,0,0,0,0,0,3,0,0,0,0,0,0,0,0,0,0,0,0,0,0,0,0,0,0,0,0,0,0,0,0,0,0,0,0,0,0,0,0,0,0,0,0,0,0,0,0,0,0,0,0,0,0,0,0,0,0,0,0,0,0,0,0,0,0,0,0,0,0,0,0,0,0,0,0,0,0,0,0,0,0,0,0,0,0,0,0,2,0,0,0,0,0,0,0,0,0] (.tt true))
(.call 2 [.int .i64] (.cons (.lit 1) .nil) 173
(.br (.eq (.var 173) (.lit 0))
(.call 3 [.int .i64] zO 174
(.br (.eq (.var 174) (.lit 2))
(.call 4 [.int .i64] (.cons (.lit 2) .nil) 175
(.br (.eq (.var 175) (.lit 1))
(.call 6 (kSc) (.cons (.lit 0) .nil) 176
(.br (.pv 181 [0,0,0,0,0,0] (.tt true))
(.call 5 [.int .i64,.bool] (.zs [0,1,0,0,8] (.consb (.tt false) (.zs [0,1,0,0] .nil))) 182
(.call 9 [.bool] .nil 184
(.br (.beq (.bw 184) (.tt false))
(.leaf (.cL .ln (.cL .ln (.cons (.lit 0) (.cons (.lit 111) .nil)))))
(.stuck 260))))
(.stuck 260)))
(.stuck 260)))
(.stuck 260)))
(.stuck 260)))
(.stuck 260)))
(.stuck 260)))
def wK:Spec:={F:=fun k=>match k with | 0=>c_icheck.F | 1=>c_tfirst.F | 2=>fV | 3=>c_vrd.F | 4=>oy | 5=>c_itgt.F | 6=>c_vone.F | 7=>c_bnot.F | 8=>c_valu.F | 9=>c_vwiD.F | _=>fun _=>[],pre:=fun k=>match k with | 0=>cV | 8=>fl | _=>fun _=>True,hw:=sHw,hx:=sHx,hi:=sHi}
theorem afS:bp kR [c_icheck.m 0,c_tfirst.m 1,nc 2,c_vrd.m 3,yJ 4,c_itgt.m 5,c_vone.m 6,c_bnot.m 7,c_valu.m 8,c_vwiD.m 9] [(38,Tryz.f38,[]++bO,[]),(86,Tryz.f86,[]++bO,[]),(87,Tryz.f87,[]++bO,[]),(78,Tryz.f78,[]++bO,[]),(80,Tryz.f80,[]++bO,[])] ([]++bO) [] 200 Tryz.f12 [.agg [.lit .i64 4,.rl (kN 9 220090000) 39 [[1,0,0,8,0,0,1,0,0],[6,0,0,0,0,0,0,0,0]]]] [.agg [.sl [none] 4,.sl kSt 54],.one (.int .i64),.one (.int .i64)] true [] qa:=trI (by kernel_rfl)
theorem afK:Cn qa wK [] [] jZ:=by
 intro U g
 simp only[qa,zO,wK,spQ,c_icheck,c_tfirst,c_vrd,c_itgt,c_vone,c_bnot,c_valu,c_vwiD,rdZ,rdB,rdL,fV,oy,mV,abv,jZ,cV,fl,cC,eU,q_Ty,dd,q_Sc,simQ,ab,S1,Nat.reduceSub,Nat.reduceAdd,-eq_self,bj,bm,ai,ap]
 refine⟨?_,?_⟩
 ·exact Nat.le_of_ble_eq_true (by kernel_rfl)
 refine bV ?_
 constructor<;>intro c0
 refine bV ?_
 constructor<;>intro c1
 refine bV ?_
 constructor<;>intro c2
 refine bV ?_
 constructor<;>intro c3
 refine bV ?_
 constructor<;>intro c4
 refine bV ?_
 constructor<;>intro c5
 refine bV ?_
 refine bV ?_
 constructor<;>intro c6
 ·rfl
 ·exact Bool.eq_false_iff.1 c6 (by kernel_rfl)
 ·exact Bool.eq_false_iff.1 c5 (by kernel_rfl)
 ·exact Bool.eq_false_iff.1 c4 (by kernel_rfl)
 ·exact Bool.eq_false_iff.1 c3 (by kernel_rfl)
 ·exact Bool.eq_false_iff.1 c2 (by kernel_rfl)
 ·exact Bool.eq_false_iff.1 c1 (by kernel_rfl)
 ·exact Bool.eq_false_iff.1 c0 (by kernel_rfl)
theorem af4 {sp:Spec} {key:Nat} (hF:sp.F key=jZ) (hP:sp.pre key=fun _=>True:=by rfl) (hH:∀w,sp.hw w->sHw w:=by exact fun _ h=>h):SmOk Tryz.prog sp (ql key):=
 nS (s:=ql key) (hW:=hH) hF hP (by kernel_rfl) gc (smc (mu rfl rfl)<|smc (qM rfl rfl)<|smc (qo rfl)<|smc (adM rfl rfl)<|smc (af7 rfl)<|smc (tk rfl rfl)<|smc (nI rfl rfl)<|smc (xJ rfl rfl)<|smc (xD rfl rfl)<|smc (adK rfl rfl) sm0) Tryz.func12 (fnc Tryz.func38 (fnc Tryz.func86 (fnc Tryz.func87 (fnc Tryz.func78 (fnc Tryz.func80 fn0))))) afS (.inl rfl) (fun hp=>afK)
def qj (key:Nat):Sm:=⟨10,key,[],[.one .bool],false⟩
def ml:List Dt->List Dt
 | []=>[.z (b2i true)]
 | _=>[]
def pY:Tr:=
(.call 0 ([.sl [none] 4,.sl kSt 54]++[.int .i64]++[.int .i64]) .nil 0
(.call 1 ([.sl [none] 4,.sl kSt 54]++[.int .i64]++[.int .i64]) .nil 4
(.call 2 ([.sl [none] 4,.sl kSt 54]++[.int .i64]++[.int .i64]) .nil 8
(.br (.eq (.var 3) (.lit 0))
(.br (.eq (.var 7) (.lit 110))
(.br (.eq (.var 10) (.lit 0))
(.leaf (.consb (.eq (.var 11) (.lit 111)) .nil))
 zlF)
 zlF)
 zlF))))
def wJ:Spec:={F:=fun k=>match k with | 0=>kf | 1=>ke | 2=>jZ | _=>fun _=>[],pre:=fun _ _=>True,hw:=sHw,hx:=sHx,hi:=sHi}
theorem afQ:bp kR [qn 0,qm 1,ql 2] [(34,Tryz.f34,[],[])] [] [] 200 Tryz.f10 [] [.one .bool] false [] pY:=trI (by kernel_rfl)
theorem afI:Cn pY wJ [] [] ml:=by
 intro U g
 simp only[pY,wJ,rdZ,rdB,rdL,kf,ke,jZ,ml,simQ,ab,S1,Nat.reduceSub,Nat.reduceAdd,-eq_self,bj,bm,ai,ap]
 refine bV ?_
 refine bV ?_
 refine bV ?_
 constructor<;>intro c0
 constructor<;>intro c1
 constructor<;>intro c2
 ·rfl
 ·exact absurd c2 (by decide)
 ·exact absurd c1 (by decide)
 ·exact absurd c0 (by decide)
theorem af2 {sp:Spec} {key:Nat} (hF:sp.F key=ml) (hP:sp.pre key=fun _=>True:=by rfl) (hH:∀w,sp.hw w->sHw w:=by exact fun _ h=>h):SmOk Tryz.prog sp (qj key):=
 nS (s:=qj key) (hW:=hH) hF hP (by kernel_rfl) gc (smc (af6 rfl)<|smc (af5 rfl)<|smc (af4 rfl) sm0) Tryz.func10 (fnc Tryz.func34 fn0) afQ (.inl rfl) (fun hp=>afI)
def il:List Dt->Prop
 | [.z x0,.l x1]=>let f (pr:Prog):Prop:=pr.l.length<=maxLen;f ⟨x0,x1⟩
 | _=>False
def c_lgreat:Cd:=⟨9,[.agg kProg],[.one .bool],rd_Prog fun pr _=>[.z (b2i (decide ((100:Int)<(pr.l.length:Int))))],il⟩
def sx:Tr:=
(.leaf (.consb (.lt (.lit 100) (.len (.lw 1))) .nil))
theorem agD:c_lgreat.Ok Tryz.prog:=
 oks (hl:=.inr (.inl ⟨(fun xs (h:il xs) L hL=>by unfold il at h;split at h<;>first | exact h.elim | (simp at hL;subst hL;exact h)),rfl⟩)) sx (v_Prog []) gc ol0 Tryz.func9<|eW fun pr hpr hp U g=>by
 simp only[c_lgreat,il,cC,b2i_one,bj,bm,ai,ap] at hp
 simp only[cC,gS1,Nat.reduceAdd] at g
 simp only[sx,spQ,rdZ,rdB,rdL,c_lgreat,cC,simQ,ab,S1,Nat.reduceSub,Nat.reduceAdd,-eq_self,bj,bm,ai,ap,g]
 ·try rfl
end Go.Proofs.YtfkhblmeioiciaaGreatDoor
