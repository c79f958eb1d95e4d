import Derived.Test.YtfkhblmeioiciaaGreatDoorVyG
import Derived.Test.YtfkhblmeioiciaaGreatDoorVyH
import Derived.Test.YtfkhblmeioiciaaGreatDoorVyI
import Derived.Test.YtfkhblmeioiciaaGreatDoorVyJ
import Derived.Test.YtfkhblmeioiciaaGreatDoorLiQ
import Derived.Test.YtfkhblmeioiciaaGreatDoorSyZe
import Derived.Test.YtfkhblmeioiciaaGreatDoorProg
import Derived.Laws.Externs
set_option linter.unusedVariables false
set_option linter.unusedSimpArgs false
namespace Go.Proofs.YtfkhblmeioiciaaGreatDoor
open Go.RowKit Go.ChangeShapes Go.WideShapes
def tys_VyK:List (Nat×TI):=[(2,⟨false,1,[.int .i64 (.lit 0)],[],none,some .i64,false,false,none,8,false,none,false,0⟩),
 (3,⟨false,1,[.int .i64 (.lit 0)],[],none,some .i64,false,false,none,8,false,none,false,0⟩),
 (4,⟨false,1,[.bool (.tt false)],[],none,none,false,true,none,1,false,none,false,0⟩),
 (22,⟨false,1,[.nsl],[],none,none,false,false,some 39,24,false,none,false,0⟩),
 (24,⟨true,2,[.int .i64 (.lit 0),.nsl],[(0,3),(1,22)],none,none,false,false,none,32,false,none,false,0⟩),
 (27,⟨false,1,[.int .i64 (.lit 0)],[],none,some .i64,false,false,none,8,false,none,false,0⟩),
 (37,⟨false,1,[.int .i8 (.lit 0)],[],none,some .i8,false,false,none,1,false,none,false,0⟩),
 (39,⟨true,9,(zN 9 220090000),[(0,37),(1,37),(2,37),(3,37),(4,4),(5,37),(6,37),(7,3),(8,3)],none,none,true,false,none,24,false,none,false,0⟩),
 (42,⟨false,1,[.int .u64 (.lit 0)],[],none,some .u64,false,false,none,8,false,none,false,0⟩),
 (44,⟨true,4,(zN 4 2211),[(0,42),(1,42),(2,2),(3,2)],none,none,false,false,none,32,false,none,false,0⟩),
 (46,⟨true,2,[.int .u64 (.lit 0),.int .u64 (.lit 0)],[(0,42),(1,42)],none,none,false,false,none,16,false,none,false,0⟩),
 (48,⟨true,6,(zN 6 112211),[(0,44),(4,46)],none,none,true,false,none,48,false,none,false,0⟩),
 (50,⟨true,9,(zN 9 221122110),[(0,37),(1,48),(7,3),(8,3)],none,none,true,false,none,72,false,none,false,0⟩),
 (51,⟨true,99,(zN 99 221122110221122110221122110221122110221122110221122110221122110221122110221122110221122110221122110),[],some (11,50),none,false,false,none,792,false,none,false,0⟩),
 (52,⟨true,72,(zN 72 221122110221122110221122110221122110221122110221122110221122110221122110),[],some (8,50),none,false,false,none,576,false,none,false,0⟩),
 (54,⟨true,171,(zN 171 221122110221122110221122110221122110221122110221122110221122110221122110221122110221122110221122110221122110221122110221122110221122110221122110221122110221122110221122110),[(0,51),(99,52)],none,none,false,false,none,1368,false,none,false,0⟩),
 (55,⟨false,1,[.nsl],[],none,none,false,false,some 66,24,false,none,false,0⟩),
 (66,⟨true,172,(zN 172 2211221102211221102211221102211221102211221102211221102211221102211221102211221102211221102211221102211221102211221102211221102211221102211221102211221102211221102211221102),[(0,3),(1,54)],none,none,false,false,none,1376,false,none,false,0⟩)]
set_option maxRecDepth 100000 in
theorem zM:(tys_VyK.all fun p=>ckTI Tryz.prog p.1 p.2)=true:=by kernel_rfl
theorem qq:(tys_VyK.all fun p=>!p.2.eqok||((Nat.beq p.1 39&&aW p.2.zero mU)||(Nat.beq p.1 48&&aW p.2.zero z_Sc)||(Nat.beq p.1 50&&aW p.2.zero z_Ty)))=true:=by kernel_rfl
theorem zv:(tys_VyK.all fun p=>!p.2.keyok)=true:=by kernel_rfl
theorem zn:∀t i,(t,i)∈tys_VyK→TIok Tryz.prog t i:=by
 intro t i h
 refine bI (cM (f:=ckTI Tryz.prog) zM h) (fun he=> ?_) (fun he=> ?_) (fun he=> ?_)
 ·have h1:=List.all_eq_true.1 qq (t,i) h
  simp only[he,Bool.not_true,Bool.false_or,Bool.or_eq_true,Bool.and_eq_true] at h1
  rcases h1 with(h1 | h1) | h1
  ·have hs:=h1.2
   obtain rfl:=Nat.eq_of_beq_eq_true h1.1
   exact fun vs us hv hu=>nO vs us (ap hs hv) (ap hs hu)
  ·have hs:=h1.2
   obtain rfl:=Nat.eq_of_beq_eq_true h1.1
   exact fun vs us hv hu=>ac5 vs us (ap hs hv) (ap hs hu)
  ·have hs:=h1.2
   obtain rfl:=Nat.eq_of_beq_eq_true h1.1
   exact fun vs us hv hu=>ac4 vs us (ap hs hv) (ap hs hu)
 ·have h1:=List.all_eq_true.1 qq (t,i) h
  simp only[he,Bool.not_true,Bool.false_or,Bool.or_eq_true,Bool.and_eq_true] at h1
  rcases h1 with(h1 | h1) | h1
  ·have hs:=h1.2
   obtain rfl:=Nat.eq_of_beq_eq_true h1.1
   exact jL
  ·have hs:=h1.2
   obtain rfl:=Nat.eq_of_beq_eq_true h1.1
   exact rU
  ·have hs:=h1.2
   obtain rfl:=Nat.eq_of_beq_eq_true h1.1
   exact rT
 ·have h1:=List.all_eq_true.1 zv (t,i) h
  simp[he] at h1
def qT (p:Prog) (i:Int) (s:Sta) (a:Int) (b:Int):List Dt:=[.z (b2i true)]
def iD:List Dt→List Dt:=jC fun p=>rdZ fun i=>kg fun s=>rdZ fun a=>rdZ fun b=>fun _=>qT p i s a b
set_option maxRecDepth 100000 in
def sT_lvnext:Tr:=
(.call 0 [.bool] (.cons (.var 0) (.consl (.lvar 1) .nil)) 176
(.br (.bvar 176)
(.call 1 [.bool] .nil 177
(.leaf (.consb (.bvar 177) .nil)))
(.br (.lt (.var 2) (.lit 0))
(.call 1 [.bool] .nil 177
(.leaf (.consb (.bvar 177) .nil)))
(.br (.lt (.var 2) (.len (.lvar 1)))
(.br (.eq (.get (.lvar 1) (.var 2) 0) (.lit 0))
(.call 2 [.sl (kN 172 2211221102211221102211221102211221102211221102211221102211221102211221102211221102211221102211221102211221102211221102211221102211221102211221102211221102211221102211221102) 66,.int .i64] (.cons (.var 0) (.consl (.lvar 1) (.vs 2 172 .nil))) 177
(.br (.eq (.var 178) (.lit 0))
(.call 3 [.bool] (.ins (.lvar 1) (.var 2) .nil) 179
(.br (.bvar 179)
(.cut 0 180 [.int .u64]
(.br (.getb (.lvar 1) (.var 2) 4)
(.br (.eq (.get (.lvar 1) (.var 2) 6) (.get (.lvar 1) (.var 2) 5))
(.next 0 (.cons (.var 174) .nil))
(.next 0 (.cons (.var 175) .nil)))
(.next 0 (.cons (.var 175) .nil)))
(.cut 1 181 [.int .u64]
(.br (.getb (.lvar 1) (.var 2) 4)
(.next 1 (.cons (.var 180) .nil))
(.next 1 (.cons (.conv .u64 (.get (.lvar 1) (.var 2) 8)) .nil)))
(.cut 2 182 [.int .u64]
(.br (.lt (.get (.lvar 1) (.var 2) 5) (.lit 0))
.panic
(.br (.lt (.get (.lvar 1) (.var 2) 5) (.lit 11))
(.call 4 [.bool] (.tn (.get (.lvar 1) (.var 2) 5) 3 9 (.cons (.var 174) .nil)) 182
(.br (.bvar 182)
(.br (.getb (.lvar 1) (.var 2) 4)
(.br (.lt (.get (.lvar 1) (.var 2) 6) (.lit 0))
.panic
(.br (.lt (.get (.lvar 1) (.var 2) 6) (.lit 11))
(.call 4 [.bool] (.tn (.get (.lvar 1) (.var 2) 6) 3 9 (.cons (.var 181) .nil)) 183
(.br (.bvar 183)
(.next 2 (.cons (.var 181) .nil))
(.br (.eq (.len (.lvar 177)) (.lit 1))
(.call 1 [.bool] .nil 184
(.leaf (.consb (.bvar 184) .nil)))
(.leaf (.consb (.tt false) .nil)))))
.panic))
(.next 2 (.cons (.var 181) .nil)))
(.br (.eq (.len (.lvar 177)) (.lit 1))
(.call 1 [.bool] .nil 183
(.leaf (.consb (.bvar 183) .nil)))
(.leaf (.consb (.tt false) .nil)))))
.panic))
(.call 5 [.int .u64,.int .i64] (.cons (.get (.lvar 1) (.var 2) 1) (.cons (.get (.lvar 1) (.var 2) 2) (.cons (.var 174) (.cons (.var 182) .nil)))) 183
(.br (.eq (.var 184) (.lit 0))
(.br (.eq (.len (.lvar 177)) (.lit 1))
(.br (.lt (.lit 0) (.len (.lvar 177)))
(.br (.eq (.get (.lvar 177) (.lit 0) 0) (.bin .add .i64 (.var 2) (.lit 1)))
(.br (.eq (.get (.lvar 1) (.var 2) 5) (.lit 0))
(.call 4 [.bool] (.gs (.lvar 177) (.lit 0) 1 9 (.cons (.var 183) .nil)) 185
(.br (.bvar 185)
(.call 6 [.bool] (.ins (.lvar 1) (.var 2) .nil) 186
(.br (.bvar 186)
(.call 1 [.bool] .nil 187
(.leaf (.consb (.bvar 187) .nil)))
(.leaf (.consb (.tt false) .nil))))
(.leaf (.consb (.tt false) .nil))))
(.br (.eq (.get (.lvar 1) (.var 2) 5) (.lit 1))
(.call 4 [.bool] (.gs (.lvar 177) (.lit 0) 10 9 (.cons (.var 183) .nil)) 185
(.br (.bvar 185)
(.call 6 [.bool] (.ins (.lvar 1) (.var 2) .nil) 186
(.br (.bvar 186)
(.call 1 [.bool] .nil 187
(.leaf (.consb (.bvar 187) .nil)))
(.leaf (.consb (.tt false) .nil))))
(.leaf (.consb (.tt false) .nil))))
(.br (.eq (.get (.lvar 1) (.var 2) 5) (.lit 2))
(.call 4 [.bool] (.gs (.lvar 177) (.lit 0) 19 9 (.cons (.var 183) .nil)) 185
(.br (.bvar 185)
(.call 6 [.bool] (.ins (.lvar 1) (.var 2) .nil) 186
(.br (.bvar 186)
(.call 1 [.bool] .nil 187
(.leaf (.consb (.bvar 187) .nil)))
(.leaf (.consb (.tt false) .nil))))
(.leaf (.consb (.tt false) .nil))))
(.br (.eq (.get (.lvar 1) (.var 2) 5) (.lit 3))
(.call 4 [.bool] (.gs (.lvar 177) (.lit 0) 28 9 (.cons (.var 183) .nil)) 185
(.br (.bvar 185)
(.call 6 [.bool] (.ins (.lvar 1) (.var 2) .nil) 186
(.br (.bvar 186)
(.call 1 [.bool] .nil 187
(.leaf (.consb (.bvar 187) .nil)))
(.leaf (.consb (.tt false) .nil))))
(.leaf (.consb (.tt false) .nil))))
(.br (.eq (.get (.lvar 1) (.var 2) 5) (.lit 4))
(.call 4 [.bool] (.gs (.lvar 177) (.lit 0) 37 9 (.cons (.var 183) .nil)) 185
(.br (.bvar 185)
(.call 6 [.bool] (.ins (.lvar 1) (.var 2) .nil) 186
(.br (.bvar 186)
(.call 1 [.bool] .nil 187
(.leaf (.consb (.bvar 187) .nil)))
(.leaf (.consb (.tt false) .nil))))
(.leaf (.consb (.tt false) .nil))))
(.br (.eq (.get (.lvar 1) (.var 2) 5) (.lit 5))
(.call 4 [.bool] (.gs (.lvar 177) (.lit 0) 46 9 (.cons (.var 183) .nil)) 185
(.br (.bvar 185)
(.call 6 [.bool] (.ins (.lvar 1) (.var 2) .nil) 186
(.br (.bvar 186)
(.call 1 [.bool] .nil 187
(.leaf (.consb (.bvar 187) .nil)))
(.leaf (.consb (.tt false) .nil))))
(.leaf (.consb (.tt false) .nil))))
(.br (.eq (.get (.lvar 1) (.var 2) 5) (.lit 6))
(.call 4 [.bool] (.gs (.lvar 177) (.lit 0) 55 9 (.cons (.var 183) .nil)) 185
(.br (.bvar 185)
(.call 6 [.bool] (.ins (.lvar 1) (.var 2) .nil) 186
(.br (.bvar 186)
(.call 1 [.bool] .nil 187
(.leaf (.consb (.bvar 187) .nil)))
(.leaf (.consb (.tt false) .nil))))
(.leaf (.consb (.tt false) .nil))))
(.br (.eq (.get (.lvar 1) (.var 2) 5) (.lit 7))
(.call 4 [.bool] (.gs (.lvar 177) (.lit 0) 64 9 (.cons (.var 183) .nil)) 185
(.br (.bvar 185)
(.call 6 [.bool] (.ins (.lvar 1) (.var 2) .nil) 186
(.br (.bvar 186)
(.call 1 [.bool] .nil 187
(.leaf (.consb (.bvar 187) .nil)))
(.leaf (.consb (.tt false) .nil))))
(.leaf (.consb (.tt false) .nil))))
(.br (.eq (.get (.lvar 1) (.var 2) 5) (.lit 8))
(.call 4 [.bool] (.gs (.lvar 177) (.lit 0) 73 9 (.cons (.var 183) .nil)) 185
(.br (.bvar 185)
(.call 6 [.bool] (.ins (.lvar 1) (.var 2) .nil) 186
(.br (.bvar 186)
(.call 1 [.bool] .nil 187
(.leaf (.consb (.bvar 187) .nil)))
(.leaf (.consb (.tt false) .nil))))
(.leaf (.consb (.tt false) .nil))))
(.br (.eq (.get (.lvar 1) (.var 2) 5) (.lit 9))
(.call 4 [.bool] (.gs (.lvar 177) (.lit 0) 82 9 (.cons (.var 183) .nil)) 185
(.br (.bvar 185)
(.call 6 [.bool] (.ins (.lvar 1) (.var 2) .nil) 186
(.br (.bvar 186)
(.call 1 [.bool] .nil 187
(.leaf (.consb (.bvar 187) .nil)))
(.leaf (.consb (.tt false) .nil))))
(.leaf (.consb (.tt false) .nil))))
(.br (.eq (.get (.lvar 1) (.var 2) 5) (.lit 10))
(.call 4 [.bool] (.gs (.lvar 177) (.lit 0) 91 9 (.cons (.var 183) .nil)) 185
(.br (.bvar 185)
(.call 6 [.bool] (.ins (.lvar 1) (.var 2) .nil) 186
(.br (.bvar 186)
(.call 1 [.bool] .nil 187
(.leaf (.consb (.bvar 187) .nil)))
(.leaf (.consb (.tt false) .nil))))
(.leaf (.consb (.tt false) .nil))))
.panic)))))))))))
(.leaf (.consb (.tt false) .nil)))
.panic)
(.leaf (.consb (.tt false) .nil)))
(.leaf (.consb (.tt false) .nil)))))))
(.leaf (.consb (.tt false) .nil))))
(.call 1 [.bool] .nil 179
(.leaf (.consb (.bvar 179) .nil)))))
(.call 1 [.bool] .nil 177
(.leaf (.consb (.bvar 177) .nil))))
(.call 1 [.bool] .nil 177
(.leaf (.consb (.bvar 177) .nil)))))))
def qY:Spec:={F:=fun k=>match k with | 0=>eT | 1=>ir | 2=>dO | 3=>me | 4=>iB | 5=>eU | 6=>eo | _=>fun _=>[],pre:=fun k=>match k with | 0=>dM | 2=>dK | _=>fun _=>True,hw:=sHw,hx:=sHx,hi:=sHi}
set_option maxRecDepth 100000 in
theorem aa2:am tys_VyK [lA 0,oR 1,lw 2,tP 3,o8 4,jv 5,lz 6] [] [(999999,[]),(999997,[])] [(11,[.tmpI 4 .u64,.top 57,.top 58,.top 59,.top 60,.top 61,.top 62,.top 63,.top 64,.top 65,.top 66]),(13,[.tmpI 4 .u64,.top 67,.top 68,.top 69,.top 70,.top 71,.top 72]),(15,[.tmpI 4 .u64,.top 73,.top 74,.top 75,.top 76,.top 77,.top 78,.top 79,.top 80,.top 81,.top 82,.top 83,.top 84,.top 85,.top 86,.top 87,.top 88,.top 89,.top 90,.top 91,.top 92,.top 93,.top 94,.top 95,.top 96,.top 97,.top 98,.top 99,.top 100,.top 10])] 200 Tryz.f6 [.agg rS,.one (.int .i64),.agg kSta,.one (.int .u64),.one (.int .u64)] [.one .bool] false (.int .i64::(.list (kN 9 220090000)::(.int .i64::(hZ (.int .u64::(.int .u64::([]))))))) sT_lvnext:=⟨by kernel_rfl,by kernel_rfl,by kernel_rfl⟩
set_option maxRecDepth 100000 in
set_option maxHeartbeats 8000000 in
theorem aaN (p:Prog) (hp:Prog.ok p) (i:Int) (hi:inK .i64 i=true) (s:Sta) (hs:Sta.ok s) (a:Int) (ha:inK .u64 a=true) (b:Int) (hb:inK .u64 b=true) (ρ:Env) (g:af ρ 0 (.int .i64::(.list (kN 9 220090000)::(.int .i64::(hZ (.int .u64::(.int .u64::([])))))))=(.z p.ctx::(.l p.l::(.z i::(cg s (.z a::(.z b::([])))))))):sT_lvnext.asks qY (fun ρ e=>e.D ρ=iD (.z p.ctx::(.l p.l::(.z i::(cg s (.z a::(.z b::([])))))))) ρ fun _ _=>False:=by
 have keepg:=g
 simp only[iD,px,pw,rdZ,rdB,jC]
 simp only[cg,d_Ty,hZ,v_Ty,af,varD,List.cons.injEq,Dt.z.injEq,Dt.l.injEq,b2i_eq_iff,Nat.reduceAdd,and_true] at g
 simp(maxSteps:=10000000) only[sT_lvnext,qY,cg,d_Ty,jC,rdZ,kg,de,eT,ir,dO,me,iB,eU,eo,lk,lg,tq,oI,jp,lj,iD,qT,dM,dK,Tr.asks,ai,okDs,okD,eqs,E.I,E.B,E.L,E.R,E.D,E.vs,E.gs,E.ins,E.sv,E.tn,E.iv,E.zs,E.pv,Nat.reduceSub,dI,dB,dL,varD,af,S1,Nat.reduceAdd,-eq_self,aj,Prog.eta,Ins.eta,aa,ab,g]
 have hl:p.l.length≤maxLen:=hp.2.len
 refine⟨?_,?_⟩
 ·exact hp.2.len
 intro e; (try simp only[e,aj,Prog.eta,Ins.eta,aa,ab,-eq_self]); clear e
 constructor<;>intro c0
 intro e; (try simp only[e,aj,Prog.eta,Ins.eta,aa,ab,-eq_self]); clear e
 ·rfl
 constructor<;>intro c1
 intro e; (try simp only[e,aj,Prog.eta,Ins.eta,aa,ab,-eq_self]); clear e
 ·rfl
 constructor<;>intro c2
 constructor<;>intro c3
 refine⟨?_,?_⟩
 ·exact⟨⟨eqI c3,hp.2.len⟩,rfl⟩
 intro e; have kL:=e.1; (try simp only[e,aj,Prog.eta,Ins.eta,aa,ab,-eq_self]); clear e
 constructor<;>intro c4
 intro e; (try simp only[e,aj,Prog.eta,Ins.eta,aa,ab,-eq_self]); clear e
 constructor<;>intro c5
 refine⟨fun ds=>∃q:Int,ds=[.z q]∧((ae p.l i).br=true→(ae p.l i).s=(ae p.l i).d→q=a)∧inK .u64 q=true,?_,?_⟩
 constructor<;>intro c6
 constructor<;>intro c7
 ·exact⟨_,rfl,fun _ h=>rfl,ha⟩
 ·exact⟨_,rfl,fun _ h=>absurd h (neI c7),hb⟩
 ·exact⟨_,rfl,fun h=>(by rw[show(ae p.l i).br=false from c6] at h; cases h),hb⟩
 intro ρ1 ha1 hz1 hi1
 obtain⟨q1,hds,j1,z1⟩:=hi1
 simp only[List.cons.injEq,Dt.z.injEq,and_true] at hds
 have keepg1:=(fy ha1 _ 0 (by decide)).trans keepg
 have g1:=keepg1
 have kL1:=(ha1 177 (by decide)).2.2.symm.trans kL
 simp only[cg,hZ,d_Ty,v_Ty,af,varD,List.cons.injEq,Dt.z.injEq,Dt.l.injEq,b2i_eq_iff,Nat.reduceAdd,and_true] at g1
 simp only[g1,kL1,hds,aj,aa,-eq_self]
 refine⟨fun ds=>∃q:Int,ds=[.z q]∧((ae p.l i).br=true→(ae p.l i).s=(ae p.l i).d→q=a)∧((ae p.l i).br=false→q=IntKind.u64.wrap (ae p.l i).imm)∧inK .u64 q=true,?_,?_⟩
 constructor<;>intro c8
 ·exact⟨_,rfl,j1,fun h=>(by rw[show(ae p.l i).br=true from c8] at h; cases h),z1⟩
 ·exact⟨_,rfl,fun h=>(by rw[show(ae p.l i).br=false from c8] at h; cases h),fun _=>rfl,pM _ _⟩
 intro ρ2 ha2 hz2 hi2
 obtain⟨q2,hds,j2,w2,z2⟩:=hi2
 simp only[List.cons.injEq,Dt.z.injEq,and_true] at hds
 have keepg2:=(fy ha2 _ 0 (by decide)).trans keepg1
 have g2:=keepg2
 have kL2:=(ha2 177 (by decide)).2.2.symm.trans kL1
 simp only[cg,hZ,d_Ty,v_Ty,af,varD,List.cons.injEq,Dt.z.injEq,Dt.l.injEq,b2i_eq_iff,Nat.reduceAdd,and_true] at g2
 simp only[g2,kL2,hds,aj,aa,-eq_self]
 refine⟨fun ds=>∃q:Int,ds=[.z q]∧ay (bi (ae p.l i) s) q=true∧ay (tnth s (ae p.l i).d) a=true∧inK .u64 q=true,?_,?_⟩
 constructor<;>intro c9
 ·obtain⟨hc,hi2,hu,hL⟩:=ao (eqI c4)
  have hx:=aq hl hc hi2.1 hi2.2
  have b:=eE hx
  have b1:0≤gt p.l i 5:=b.1
  have b2:gt p.l i 5≤10:=b.2.1
  have:=of_decide_eq_true c9
  omega
 constructor<;>intro c10
 intro e; (try simp only[e,aj,Prog.eta,Ins.eta,aa,ab,-eq_self]); clear e
 constructor<;>intro c11
 constructor<;>intro c12
 constructor<;>intro c13
 ·obtain⟨hc,hi2,hu,hL⟩:=ao (eqI c4)
  have hx:=aq hl hc hi2.1 hi2.2
  have b:=eE hx
  have b1:0≤gt p.l i 6:=b.2.2.1
  have b2:gt p.l i 6≤10:=b.2.2.2.1
  have:=of_decide_eq_true c13
  omega
 constructor<;>intro c14
 intro e; (try simp only[e,aj,Prog.eta,Ins.eta,aa,ab,-eq_self]); clear e
 constructor<;>intro c15
 ·exact⟨_,rfl,ajD (show(ae p.l i).br=true from c12) c15,c11,z2⟩
 constructor<;>intro c16
 intro e; (try simp only[e,aj,Prog.eta,Ins.eta,aa,ab,-eq_self]); clear e
 ·rfl
 ·obtain⟨hc,hi2,hu,hL⟩:=ao (eqI c4)
  have hx:=aq hl hc hi2.1 hi2.2
  rw[hL] at c16
  exact absurd c16 (by simp)
 ·obtain⟨hc,hi2,hu,hL⟩:=ao (eqI c4)
  have hx:=aq hl hc hi2.1 hi2.2
  have b:=eE hx
  have b1:0≤gt p.l i 6:=b.2.2.1
  have b2:gt p.l i 6≤10:=b.2.2.2.1
  have:=of_decide_eq_false c14
  omega
 ·exact⟨_,rfl,by rw[w2 (show(ae p.l i).br=false from c12)]; exact ajE (show(ae p.l i).br=false from c12),c11,z2⟩
 constructor<;>intro c17
 intro e; (try simp only[e,aj,Prog.eta,Ins.eta,aa,ab,-eq_self]); clear e
 ·rfl
 ·obtain⟨hc,hi2,hu,hL⟩:=ao (eqI c4)
  have hx:=aq hl hc hi2.1 hi2.2
  rw[hL] at c17
  exact absurd c17 (by simp)
 ·obtain⟨hc,hi2,hu,hL⟩:=ao (eqI c4)
  have hx:=aq hl hc hi2.1 hi2.2
  have b:=eE hx
  have b1:0≤gt p.l i 5:=b.1
  have b2:gt p.l i 5≤10:=b.2.1
  have:=of_decide_eq_false c10
  omega
 intro ρ3 ha3 hz3 hi3
 obtain⟨q3,hds,t3,ta,z3⟩:=hi3
 simp only[List.cons.injEq,Dt.z.injEq,and_true] at hds
 have keepg3:=(fy ha3 _ 0 (by decide)).trans keepg2
 have g3:=keepg3
 have kL3:=(ha3 177 (by decide)).2.2.symm.trans kL2
 simp only[cg,hZ,d_Ty,v_Ty,af,varD,List.cons.injEq,Dt.z.injEq,Dt.l.injEq,b2i_eq_iff,Nat.reduceAdd,and_true] at g3
 simp only[g3,kL3,hds,aj,aa,-eq_self]
 intro e; (try simp only[e,aj,Prog.eta,Ins.eta,aa,ab,-eq_self]); clear e
 constructor<;>intro c18
 constructor<;>intro c19
 constructor<;>intro c20
 constructor<;>intro c21
 constructor<;>intro c22
 intro e; (try simp only[e,aj,Prog.eta,Ins.eta,aa,ab,-eq_self]); clear e
 constructor<;>intro c23
 intro e; (try simp only[e,aj,Prog.eta,Ins.eta,aa,ab,-eq_self]); clear e
 constructor<;>intro c24
 intro e; (try simp only[e,aj,Prog.eta,Ins.eta,aa,ab,-eq_self]); clear e
 ·rfl
 ·obtain⟨hc,hi2,hu,hL⟩:=ao (eqI c4)
  have hx:=aq hl hc hi2.1 hi2.2
  exact absurd hx (by rw[show imay (ae p.l i)=false from c24]; simp)
 ·exact nx_0 hs hl c4 c3 ta t3 ha z3 c22 c23
 constructor<;>intro c25
 intro e; (try simp only[e,aj,Prog.eta,Ins.eta,aa,ab,-eq_self]); clear e
 constructor<;>intro c26
 intro e; (try simp only[e,aj,Prog.eta,Ins.eta,aa,ab,-eq_self]); clear e
 constructor<;>intro c27
 intro e; (try simp only[e,aj,Prog.eta,Ins.eta,aa,ab,-eq_self]); clear e
 ·rfl
 ·obtain⟨hc,hi2,hu,hL⟩:=ao (eqI c4)
  have hx:=aq hl hc hi2.1 hi2.2
  exact absurd hx (by rw[show imay (ae p.l i)=false from c27]; simp)
 ·exact nx_1 hs hl c4 c3 ta t3 ha z3 c25 c26
 constructor<;>intro c28
 intro e; (try simp only[e,aj,Prog.eta,Ins.eta,aa,ab,-eq_self]); clear e
 constructor<;>intro c29
 intro e; (try simp only[e,aj,Prog.eta,Ins.eta,aa,ab,-eq_self]); clear e
 constructor<;>intro c30
 intro e; (try simp only[e,aj,Prog.eta,Ins.eta,aa,ab,-eq_self]); clear e
 ·rfl
 ·obtain⟨hc,hi2,hu,hL⟩:=ao (eqI c4)
  have hx:=aq hl hc hi2.1 hi2.2
  exact absurd hx (by rw[show imay (ae p.l i)=false from c30]; simp)
 ·exact nx_2 hs hl c4 c3 ta t3 ha z3 c28 c29
 constructor<;>intro c31
 intro e; (try simp only[e,aj,Prog.eta,Ins.eta,aa,ab,-eq_self]); clear e
 constructor<;>intro c32
 intro e; (try simp only[e,aj,Prog.eta,Ins.eta,aa,ab,-eq_self]); clear e
 constructor<;>intro c33
 intro e; (try simp only[e,aj,Prog.eta,Ins.eta,aa,ab,-eq_self]); clear e
 ·rfl
 ·obtain⟨hc,hi2,hu,hL⟩:=ao (eqI c4)
  have hx:=aq hl hc hi2.1 hi2.2
  exact absurd hx (by rw[show imay (ae p.l i)=false from c33]; simp)
 ·exact nx_3 hs hl c4 c3 ta t3 ha z3 c31 c32
 constructor<;>intro c34
 intro e; (try simp only[e,aj,Prog.eta,Ins.eta,aa,ab,-eq_self]); clear e
 constructor<;>intro c35
 intro e; (try simp only[e,aj,Prog.eta,Ins.eta,aa,ab,-eq_self]); clear e
 constructor<;>intro c36
 intro e; (try simp only[e,aj,Prog.eta,Ins.eta,aa,ab,-eq_self]); clear e
 ·rfl
 ·obtain⟨hc,hi2,hu,hL⟩:=ao (eqI c4)
  have hx:=aq hl hc hi2.1 hi2.2
  exact absurd hx (by rw[show imay (ae p.l i)=false from c36]; simp)
 ·exact nx_4 hs hl c4 c3 ta t3 ha z3 c34 c35
 constructor<;>intro c37
 intro e; (try simp only[e,aj,Prog.eta,Ins.eta,aa,ab,-eq_self]); clear e
 constructor<;>intro c38
 intro e; (try simp only[e,aj,Prog.eta,Ins.eta,aa,ab,-eq_self]); clear e
 constructor<;>intro c39
 intro e; (try simp only[e,aj,Prog.eta,Ins.eta,aa,ab,-eq_self]); clear e
 ·rfl
 ·obtain⟨hc,hi2,hu,hL⟩:=ao (eqI c4)
  have hx:=aq hl hc hi2.1 hi2.2
  exact absurd hx (by rw[show imay (ae p.l i)=false from c39]; simp)
 ·exact nx_5 hs hl c4 c3 ta t3 ha z3 c37 c38
 constructor<;>intro c40
 intro e; (try simp only[e,aj,Prog.eta,Ins.eta,aa,ab,-eq_self]); clear e
 constructor<;>intro c41
 intro e; (try simp only[e,aj,Prog.eta,Ins.eta,aa,ab,-eq_self]); clear e
 constructor<;>intro c42
 intro e; (try simp only[e,aj,Prog.eta,Ins.eta,aa,ab,-eq_self]); clear e
 ·rfl
 ·obtain⟨hc,hi2,hu,hL⟩:=ao (eqI c4)
  have hx:=aq hl hc hi2.1 hi2.2
  exact absurd hx (by rw[show imay (ae p.l i)=false from c42]; simp)
 ·exact nx_6 hs hl c4 c3 ta t3 ha z3 c40 c41
 constructor<;>intro c43
 intro e; (try simp only[e,aj,Prog.eta,Ins.eta,aa,ab,-eq_self]); clear e
 constructor<;>intro c44
 intro e; (try simp only[e,aj,Prog.eta,Ins.eta,aa,ab,-eq_self]); clear e
 constructor<;>intro c45
 intro e; (try simp only[e,aj,Prog.eta,Ins.eta,aa,ab,-eq_self]); clear e
 ·rfl
 ·obtain⟨hc,hi2,hu,hL⟩:=ao (eqI c4)
  have hx:=aq hl hc hi2.1 hi2.2
  exact absurd hx (by rw[show imay (ae p.l i)=false from c45]; simp)
 ·exact nx_7 hs hl c4 c3 ta t3 ha z3 c43 c44
 constructor<;>intro c46
 intro e; (try simp only[e,aj,Prog.eta,Ins.eta,aa,ab,-eq_self]); clear e
 constructor<;>intro c47
 intro e; (try simp only[e,aj,Prog.eta,Ins.eta,aa,ab,-eq_self]); clear e
 constructor<;>intro c48
 intro e; (try simp only[e,aj,Prog.eta,Ins.eta,aa,ab,-eq_self]); clear e
 ·rfl
 ·obtain⟨hc,hi2,hu,hL⟩:=ao (eqI c4)
  have hx:=aq hl hc hi2.1 hi2.2
  exact absurd hx (by rw[show imay (ae p.l i)=false from c48]; simp)
 ·exact nx_8 hs hl c4 c3 ta t3 ha z3 c46 c47
 constructor<;>intro c49
 intro e; (try simp only[e,aj,Prog.eta,Ins.eta,aa,ab,-eq_self]); clear e
 constructor<;>intro c50
 intro e; (try simp only[e,aj,Prog.eta,Ins.eta,aa,ab,-eq_self]); clear e
 constructor<;>intro c51
 intro e; (try simp only[e,aj,Prog.eta,Ins.eta,aa,ab,-eq_self]); clear e
 ·rfl
 ·obtain⟨hc,hi2,hu,hL⟩:=ao (eqI c4)
  have hx:=aq hl hc hi2.1 hi2.2
  exact absurd hx (by rw[show imay (ae p.l i)=false from c51]; simp)
 ·exact nx_9 hs hl c4 c3 ta t3 ha z3 c49 c50
 constructor<;>intro c52
 intro e; (try simp only[e,aj,Prog.eta,Ins.eta,aa,ab,-eq_self]); clear e
 constructor<;>intro c53
 intro e; (try simp only[e,aj,Prog.eta,Ins.eta,aa,ab,-eq_self]); clear e
 constructor<;>intro c54
 intro e; (try simp only[e,aj,Prog.eta,Ins.eta,aa,ab,-eq_self]); clear e
 ·rfl
 ·obtain⟨hc,hi2,hu,hL⟩:=ao (eqI c4)
  have hx:=aq hl hc hi2.1 hi2.2
  exact absurd hx (by rw[show imay (ae p.l i)=false from c54]; simp)
 ·exact alV hs hl c4 c3 ta t3 ha z3 c52 c53
 ·obtain⟨hc,hi2,hu,hL⟩:=ao (eqI c4)
  have hx:=aq hl hc hi2.1 hi2.2
  have b:=eE hx
  have b1:0≤gt p.l i 5:=b.1
  have b2:gt p.l i 5≤10:=b.2.1
  have:=neI c22
  have:=neI c25
  have:=neI c28
  have:=neI c31
  have:=neI c34
  have:=neI c37
  have:=neI c40
  have:=neI c43
  have:=neI c46
  have:=neI c49
  have:=neI c52
  omega
 ·obtain⟨hc,hi2,hu,hL⟩:=ao (eqI c4)
  have hx:=aq hl hc hi2.1 hi2.2
  rw[hL] at c21
  exact absurd rfl (neI c21)
 ·obtain⟨hc,hi2,hu,hL⟩:=ao (eqI c4)
  have hx:=aq hl hc hi2.1 hi2.2
  rw[hL] at c20
  exact absurd c20 (by simp)
 ·obtain⟨hc,hi2,hu,hL⟩:=ao (eqI c4)
  have hx:=aq hl hc hi2.1 hi2.2
  rw[hL] at c19
  exact absurd c19 (by simp)
 ·obtain⟨hc,hi2,hu,hL⟩:=ao (eqI c4)
  have hx:=aq hl hc hi2.1 hi2.2
  rw[if_pos (show okop (gt p.l i 1) (gt p.l i 2)=true from pN hx (eqI c3))] at c18
  exact absurd c18 (by simp)
 ·obtain⟨hc,hi2,hu,hL⟩:=ao (eqI c4)
  have hx:=aq hl hc hi2.1 hi2.2
  exact absurd hx (by rw[show imay (ae p.l i)=false from c5]; simp)
 intro e; (try simp only[e,aj,Prog.eta,Ins.eta,aa,ab,-eq_self]); clear e
 ·rfl
 intro e; (try simp only[e,aj,Prog.eta,Ins.eta,aa,ab,-eq_self]); clear e
 ·rfl
 intro e; (try simp only[e,aj,Prog.eta,Ins.eta,aa,ab,-eq_self]); clear e
 ·rfl
theorem abV (xs:List Dt) (vals:List Value) (w:World) (hw:jj w [.agg rS,.one (.int .i64),.agg kSta,.one (.int .u64),.one (.int .u64)] xs vals) (hh:sHw w):Calls Tryz.prog 6 vals.toArray w fun e w'=>∃v,e=.returned v∧RetOk [.one .bool] false w w' (iD xs) v:=
 (rV (by kernel_rfl) zn (smc (abR rfl rfl) (smc (aeD rfl) (smc (abN rfl rfl) (smc (aiu rfl) (smc (aeL rfl) (smc (abU rfl) (smc (tU rfl) sm0))))))) Tryz.func6 fn0 aa2 (pre:=fun _=>True) (fun x0 gx0 x1 gx1 x2 gx2=>ux fun q3 gq3=>fun x174 gx174 x175 gx175 hp ρ g=>aaN ⟨x0,x1⟩ ⟨gx0,gx1⟩ x2 gx2 q3 gq3 x174 gx174 x175 gx175 ρ g) xs vals w hw trivial hh).2
theorem rwN:Rw Tryz.prog 3 [some .i64]:=Rw.int .i64 Tryz.underlying3 (by kernel_rfl)
theorem rwU:Rw Tryz.prog 42 [some .u64]:=Rw.int .u64 Tryz.underlying42 (by kernel_rfl)
theorem rwI:Rw Tryz.prog 2 [some .i64]:=Rw.int .i64 Tryz.underlying2 (by kernel_rfl)
theorem rwRg:Rw Tryz.prog 44 [some .u64,some .u64,some .i64,some .i64]:=by
 refine Rw.struct (ks:=[some .u64,some .u64,some .i64,some .i64]) ?_ Tryz.underlying44 (by kernel_rfl)
 exact(RwSeq.cons (ks:=[some .u64]) rwU (by rfl) (RwSeq.cons (ks:=[some .u64]) rwU (by rfl) (RwSeq.cons (ks:=[some .i64]) rwI (by rfl) (RwSeq.cons (ks:=[some .i64]) rwI (by rfl) (RwSeq.nil _ _)))))
theorem rwKn:Rw Tryz.prog 46 [some .u64,some .u64]:=by
 refine Rw.struct (ks:=[some .u64,some .u64]) ?_ Tryz.underlying46 (by kernel_rfl)
 exact(RwSeq.cons (ks:=[some .u64]) rwU (by rfl) (RwSeq.cons (ks:=[some .u64]) rwU (by rfl) (RwSeq.nil _ _)))
theorem rwSc:Rw Tryz.prog 48 [some .u64,some .u64,some .i64,some .i64,some .u64,some .u64]:=by
 refine Rw.struct (ks:=[some .u64,some .u64,some .i64,some .i64,some .u64,some .u64]) ?_ Tryz.underlying48 (by kernel_rfl)
 exact(RwSeq.cons (ks:=[some .u64,some .u64,some .i64,some .i64]) rwRg (by rfl) (RwSeq.cons (ks:=[some .u64,some .u64]) rwKn (by rfl) (RwSeq.nil _ _)))
theorem rwTy:Rw Tryz.prog 50 (kN 9 221122110):=by
 refine Rw.struct (ks:=(kN 9 221122110)) ?_ Tryz.underlying50 (by kernel_rfl)
 exact(RwSeq.cons (ks:=[some .i8]) rwI8 (by rfl) (RwSeq.cons (ks:=[some .u64,some .u64,some .i64,some .i64,some .u64,some .u64]) rwSc (by rfl) (RwSeq.cons (ks:=[some .i64]) rwN (by rfl) (RwSeq.cons (ks:=[some .i64]) rwN (by rfl) (RwSeq.nil _ _)))))
set_option maxRecDepth 100000 in
theorem akI:Rw Tryz.prog 51 (repL (kN 9 221122110) 11):=Rw.array rwTy Tryz.underlying51 (by kernel_rfl)
set_option maxRecDepth 100000 in
theorem alS:Rw Tryz.prog 52 (repL (kN 9 221122110) 8):=Rw.array rwTy Tryz.underlying52 (by kernel_rfl)
set_option maxRecDepth 100000 in
theorem alT:Rw Tryz.prog 54 ((repL (kN 9 221122110) 11)++((repL (kN 9 221122110) 8)++[])):=Rw.struct (ks:=((repL (kN 9 221122110) 11)++((repL (kN 9 221122110) 8)++[]))) (RwSeq.cons (ks:=(repL (kN 9 221122110) 11)) akI (by rfl) (RwSeq.cons (ks:=(repL (kN 9 221122110) 8)) alS (by rfl) (RwSeq.nil _ _))) Tryz.underlying54 (by kernel_rfl)
def dE (t:List CE):List CE:=some .i8::some .u64::some .u64::some .i64::some .i64::some .u64::some .u64::some .i64::some .i64::t
def dW (t:List CK):List CK:=.int .i8::.int .u64::.int .u64::.int .i64::.int .i64::.int .u64::.int .u64::.int .i64::.int .i64::t
set_option maxRecDepth 100000 in
theorem cd {ks:List CE} {q:List Int} (h:az (dE ks) q=true):∃(a:Ty) (q':List Int),Ty.ok a∧az ks q'=true∧∀(w:World) (cs:List CK) (xs r:List Dt),dl w cs xs (rowV ks q') r→dl w (dW cs) (d_Ty a xs) (rowV (dE ks) q) r:=by
 obtain⟨y0,q,rfl,e0,h⟩:=bj h
 obtain⟨y1,q,rfl,e1,h⟩:=bj h
 obtain⟨y2,q,rfl,e2,h⟩:=bj h
 obtain⟨y3,q,rfl,e3,h⟩:=bj h
 obtain⟨y4,q,rfl,e4,h⟩:=bj h
 obtain⟨y5,q,rfl,e5,h⟩:=bj h
 obtain⟨y6,q,rfl,e6,h⟩:=bj h
 obtain⟨y7,q,rfl,e7,h⟩:=bj h
 obtain⟨y8,q,rfl,e8,h⟩:=bj h
 exact⟨⟨y0,y1,y2,y3,y4,y5,y6,y7,y8⟩,q,⟨e0,e1,e2,e3,e4,e5,e6,e7,e8⟩,h,fun w cs xs r hr=>⟨_,_,_,rfl,⟨_,rfl,rfl,e0⟩,⟨_,_,_,rfl,⟨_,rfl,rfl,e1⟩,⟨_,_,_,rfl,⟨_,rfl,rfl,e2⟩,⟨_,_,_,rfl,⟨_,rfl,rfl,e3⟩,⟨_,_,_,rfl,⟨_,rfl,rfl,e4⟩,⟨_,_,_,rfl,⟨_,rfl,rfl,e5⟩,⟨_,_,_,rfl,⟨_,rfl,rfl,e6⟩,⟨_,_,_,rfl,⟨_,rfl,rfl,e7⟩,⟨_,_,_,rfl,⟨_,rfl,rfl,e8⟩,hr⟩⟩⟩⟩⟩⟩⟩⟩⟩⟩
def xe (t:List CE):List CE:=dE (dE (dE (dE (dE (dE (dE (dE (dE (dE (dE (dE (dE (dE (dE (dE (dE (dE (dE (t)))))))))))))))))))
def alg (t:List CK):List CK:=dW (dW (dW (dW (dW (dW (dW (dW (dW (dW (dW (dW (dW (dW (dW (dW (dW (dW (dW (t)))))))))))))))))))
set_option maxRecDepth 100000 in
theorem aiB {ks:List CE} {q:List Int} (h:az (xe ks) q=true):∃(a:Sta) (q':List Int),Sta.ok a∧az ks q'=true∧∀(w:World) (cs:List CK) (xs r:List Dt),dl w cs xs (rowV ks q') r→dl w (alg cs) (cg a xs) (rowV (xe ks) q) r:=by
 obtain⟨r0,q_r0,o_r0,h,s_r0⟩:=cd h
 obtain⟨r1,q_r1,o_r1,h,s_r1⟩:=cd h
 obtain⟨r2,q_r2,o_r2,h,s_r2⟩:=cd h
 obtain⟨r3,q_r3,o_r3,h,s_r3⟩:=cd h
 obtain⟨r4,q_r4,o_r4,h,s_r4⟩:=cd h
 obtain⟨r5,q_r5,o_r5,h,s_r5⟩:=cd h
 obtain⟨r6,q_r6,o_r6,h,s_r6⟩:=cd h
 obtain⟨r7,q_r7,o_r7,h,s_r7⟩:=cd h
 obtain⟨r8,q_r8,o_r8,h,s_r8⟩:=cd h
 obtain⟨r9,q_r9,o_r9,h,s_r9⟩:=cd h
 obtain⟨r10,q_r10,o_r10,h,s_r10⟩:=cd h
 obtain⟨s0,q_s0,o_s0,h,s_s0⟩:=cd h
 obtain⟨s1,q_s1,o_s1,h,s_s1⟩:=cd h
 obtain⟨s2,q_s2,o_s2,h,s_s2⟩:=cd h
 obtain⟨s3,q_s3,o_s3,h,s_s3⟩:=cd h
 obtain⟨s4,q_s4,o_s4,h,s_s4⟩:=cd h
 obtain⟨s5,q_s5,o_s5,h,s_s5⟩:=cd h
 obtain⟨s6,q_s6,o_s6,h,s_s6⟩:=cd h
 obtain⟨s7,q_s7,o_s7,h,s_s7⟩:=cd h
 exact⟨⟨r0,r1,r2,r3,r4,r5,r6,r7,r8,r9,r10,s0,s1,s2,s3,s4,s5,s6,s7⟩,_,⟨o_r0,o_r1,o_r2,o_r3,o_r4,o_r5,o_r6,o_r7,o_r8,o_r9,o_r10,o_s0,o_s1,o_s2,o_s3,o_s4,o_s5,o_s6,o_s7⟩,h,fun w cs xs r hr=>s_r0 w _ _ _ (s_r1 w _ _ _ (s_r2 w _ _ _ (s_r3 w _ _ _ (s_r4 w _ _ _ (s_r5 w _ _ _ (s_r6 w _ _ _ (s_r7 w _ _ _ (s_r8 w _ _ _ (s_r9 w _ _ _ (s_r10 w _ _ _ (s_s0 w _ _ _ (s_s1 w _ _ _ (s_s2 w _ _ _ (s_s3 w _ _ _ (s_s4 w _ _ _ (s_s5 w _ _ _ (s_s6 w _ _ _ (s_s7 w _ _ _ hr))))))))))))))))))⟩
set_option maxRecDepth 100000 in
theorem ajy {q:List Int} (h:az (xe []) q=true):∃a:Sta,Sta.ok a∧∀(w:World) (r:List Dt),dl w kSta (cg a r) (rowV (xe []) q) r:=by
 obtain⟨a,q',o,h,s⟩:=aiB h
 obtain rfl:=rA h
 exact⟨a,o,fun w r=>s w [] _ _ ⟨rfl,rfl⟩⟩
set_option maxRecDepth 100000 in
set_option maxHeartbeats 8000000 in
theorem mX {H:Type} {enc:TypeId×Value→H} {W:World} {r:Reach} {b0:Nat} (v0:Value) (k0:Value.okWide Tryz.prog W r b0 24 v0) (d0:DataW H) (p0:List MemPlace) (h0:DataW.Trod enc Tryz.prog W 0 (fun _=>true) true 24 v0 d0 p0) (_:∀x∈p0,x.block<W.heap.size) (a1:Int) (w1:(Lit.int .i64 a1).wf=true) (v2:Value) (k2:Value.okWide Tryz.prog W r b0 54 v2) (d2:DataW H) (p2:List MemPlace) (h2:DataW.Trod enc Tryz.prog W 0 (fun _=>true) true 54 v2 d2 p2) (_:∀x∈p2,x.block<W.heap.size) (a3:Int) (w3:(Lit.int .u64 a3).wf=true) (a4:Int) (w4:(Lit.int .u64 a4).wf=true) (hh:sHw W):
  Calls Tryz.prog 6 #[v0,.int .i64 a1,v2,.int .u64 a3,.int .u64 a4] W fun e W'=>e=.returned (.bool true)∧Below W.heap.size W W':=by
 obtain⟨a0,q0,s0,rfl,w0,n0,m0,o0,l0⟩:=Prog.of_arg k0 h0
 obtain⟨q2,rfl,g2⟩:=yS alT Tryz.underlying54 k2 h2
 obtain⟨a2,o2,s2⟩:=ajy g2
 refine(abV (.z a0::(.l q0::(.z a1::(cg a2 (.z a3::(.z a4::([]))))))) _ W ⟨_,_,_,rfl,⟨_,_,_,rfl,⟨_,rfl,rfl,w0⟩,⟨_,_,_,rfl,⟨_,_,rfl,rfl,n0,m0,o0,l0⟩,⟨rfl,rfl⟩⟩⟩,⟨_,_,_,rfl,⟨_,rfl,rfl,(iU w1)⟩,⟨_,_,_,rfl,s2 W _,⟨_,_,_,rfl,⟨_,rfl,rfl,(iU w3)⟩,⟨_,_,_,rfl,⟨_,rfl,rfl,(iU w4)⟩,⟨rfl,rfl⟩⟩⟩⟩⟩⟩ hh).mono fun e W' ⟨v,he,hr⟩=> ?_
 have hv:v=.bool true:=RetOk.says hr
 rw[he,hv]
 exact⟨rfl,hr.ext⟩
end Go.Proofs.YtfkhblmeioiciaaGreatDoor
