import Derived.Test.YtfkhblmeioiciaaGreatDoorVyB
import Derived.Test.YtfkhblmeioiciaaGreatDoorVyF
import Derived.Test.YtfkhblmeioiciaaGreatDoorProg
import Derived.Laws.Externs
set_option linter.unusedVariables false
set_option linter.unusedSimpArgs false
namespace Go.Proofs.YtfkhblmeioiciaaGreatDoor
open Go.RowKit Go.ChangeShapes Go.WideShapes
def tys_VyG:List (Nat×TI):=[(2,⟨false,1,[.int .i64 (.lit 0)],[],none,some .i64,false,false,none,8,false,none,false,0⟩),
 (3,⟨false,1,[.int .i64 (.lit 0)],[],none,some .i64,false,false,none,8,false,none,false,0⟩),
 (4,⟨false,1,[.bool (.tt false)],[],none,none,false,true,none,1,false,none,false,0⟩),
 (22,⟨false,1,[.nsl],[],none,none,false,false,some 39,24,false,none,false,0⟩),
 (24,⟨true,2,[.int .i64 (.lit 0),.nsl],[(0,3),(1,22)],none,none,false,false,none,32,false,none,false,0⟩),
 (27,⟨false,1,[.int .i64 (.lit 0)],[],none,some .i64,false,false,none,8,false,none,false,0⟩),
 (37,⟨false,1,[.int .i8 (.lit 0)],[],none,some .i8,false,false,none,1,false,none,false,0⟩),
 (39,⟨true,9,(zN 9 220090000),[(0,37),(1,37),(2,37),(3,37),(4,4),(5,37),(6,37),(7,3),(8,3)],none,none,true,false,none,24,false,none,false,0⟩),
 (42,⟨false,1,[.int .u64 (.lit 0)],[],none,some .u64,false,false,none,8,false,none,false,0⟩),
 (44,⟨true,4,(zN 4 2211),[(0,42),(1,42),(2,2),(3,2)],none,none,false,false,none,32,false,none,false,0⟩),
 (46,⟨true,2,[.int .u64 (.lit 0),.int .u64 (.lit 0)],[(0,42),(1,42)],none,none,false,false,none,16,false,none,false,0⟩),
 (48,⟨true,6,(zN 6 112211),[(0,44),(4,46)],none,none,true,false,none,48,false,none,false,0⟩),
 (50,⟨true,9,(zN 9 221122110),[(0,37),(1,48),(7,3),(8,3)],none,none,true,false,none,72,false,none,false,0⟩),
 (51,⟨true,99,(zN 99 221122110221122110221122110221122110221122110221122110221122110221122110221122110221122110221122110),[],some (11,50),none,false,false,none,792,false,none,false,0⟩),
 (52,⟨true,72,(zN 72 221122110221122110221122110221122110221122110221122110221122110221122110),[],some (8,50),none,false,false,none,576,false,none,false,0⟩),
 (54,⟨true,171,(zN 171 221122110221122110221122110221122110221122110221122110221122110221122110221122110221122110221122110221122110221122110221122110221122110221122110221122110221122110221122110),[(0,51),(99,52)],none,none,false,false,none,1368,false,none,false,0⟩),
 (55,⟨false,1,[.nsl],[],none,none,false,false,some 66,24,false,none,false,0⟩),
 (66,⟨true,172,(zN 172 2211221102211221102211221102211221102211221102211221102211221102211221102211221102211221102211221102211221102211221102211221102211221102211221102211221102211221102211221102),[(0,3),(1,54)],none,none,false,false,none,1376,false,none,false,0⟩),
 (105,⟨false,1,[.int .u64 (.lit 0)],[],none,some .u64,false,false,none,8,false,none,false,0⟩),
 (145,⟨false,1,[.nilp],[],none,none,false,false,none,8,false,none,false,1⟩),
 (151,⟨false,1,[.nilf],[],none,none,false,false,none,8,true,none,false,0⟩)]
set_option maxRecDepth 100000 in
theorem zQ:(tys_VyG.all fun p=>ckTI Tryz.prog p.1 p.2)=true:=by kernel_rfl
theorem qt:(tys_VyG.all fun p=>!p.2.eqok||((Nat.beq p.1 39&&aW p.2.zero mU)||(Nat.beq p.1 48&&aW p.2.zero z_Sc)||(Nat.beq p.1 50&&aW p.2.zero z_Ty)))=true:=by kernel_rfl
theorem zy:(tys_VyG.all fun p=>!p.2.keyok)=true:=by kernel_rfl
theorem zo:∀t i,(t,i)∈tys_VyG→TIok Tryz.prog t i:=by
 intro t i h
 refine bI (cM (f:=ckTI Tryz.prog) zQ h) (fun he=> ?_) (fun he=> ?_) (fun he=> ?_)
 ·have h1:=List.all_eq_true.1 qt (t,i) h
  simp only[he,Bool.not_true,Bool.false_or,Bool.or_eq_true,Bool.and_eq_true] at h1
  rcases h1 with(h1 | h1) | h1
  ·have hs:=h1.2
   obtain rfl:=Nat.eq_of_beq_eq_true h1.1
   exact fun vs us hv hu=>nO vs us (ap hs hv) (ap hs hu)
  ·have hs:=h1.2
   obtain rfl:=Nat.eq_of_beq_eq_true h1.1
   exact fun vs us hv hu=>ac5 vs us (ap hs hv) (ap hs hu)
  ·have hs:=h1.2
   obtain rfl:=Nat.eq_of_beq_eq_true h1.1
   exact fun vs us hv hu=>ac4 vs us (ap hs hv) (ap hs hu)
 ·have h1:=List.all_eq_true.1 qt (t,i) h
  simp only[he,Bool.not_true,Bool.false_or,Bool.or_eq_true,Bool.and_eq_true] at h1
  rcases h1 with(h1 | h1) | h1
  ·have hs:=h1.2
   obtain rfl:=Nat.eq_of_beq_eq_true h1.1
   exact jL
  ·have hs:=h1.2
   obtain rfl:=Nat.eq_of_beq_eq_true h1.1
   exact rU
  ·have hs:=h1.2
   obtain rfl:=Nat.eq_of_beq_eq_true h1.1
   exact rT
 ·have h1:=List.all_eq_true.1 zy (t,i) h
  simp[he] at h1
def lw (key:Nat):Sm:=⟨15,key,[.agg rS,.one (.int .i64),.agg kSta],[.one (.sl (kN 172 2211221102211221102211221102211221102211221102211221102211221102211221102211221102211221102211221102211221102211221102211221102211221102211221102211221102211221102211221102) 66),.one (.int .i64)],true⟩
def lg (p:Prog) (i:Int) (s:Sta):List Dt:=[.l ((aJ p i s).1),.z ((aJ p i s).2)]
def dO:List Dt→List Dt:=jC fun p=>rdZ fun i=>kg fun s=>fun _=>lg p i s
set_option maxRecDepth 100000 in
def sT_vstepA:Tr:=
(.br (.eq (.get (.lvar 1) (.var 2) 0) (.lit 0))
(.call 0 [.int .i64,.int .i64] (.cons (.var 0) (.consl (.lvar 1) .nil)) 174
(.br (.eq (.var 175) (.lit 0))
(.br (.lt (.var 2) (.lit 0))
(.leaf (.consl .lnil (.cons (.lit 2) .nil)))
(.br (.lt (.var 2) (.len (.lvar 1)))
(.call 1 [.bool] (.vs 3 171 .nil) 176
(.br (.bvar 176)
(.call 2 [.int .i64] (.ins (.lvar 1) (.var 2) .nil) 177
(.loop 0 178 [.int .i64] (.cons (.var 177) .nil)
(.br (.lt (.lit 0) (.var 178))
(.call 3 [.int .i64] (.cons (.conv .u64 (.var 178)) .nil) 179
(.br (.lt (.var 179) (.lit 0))
.panic
(.br (.lt (.var 179) (.lit 11))
(.br (.eq (.nth (.var 179) (.sv 3 11)) (.lit 0))
(.leaf (.consl .lnil (.cons (.lit 110) .nil)))
(.next 0 (.cons (.bin .and .i64 (.var 178) (.bin .sub .i64 (.var 178) (.lit 1))) .nil)))
.panic)))
(.br (.lt (.get (.lvar 1) (.var 2) 6) (.lit 0))
.panic
(.br (.lt (.get (.lvar 1) (.var 2) 6) (.lit 11))
(.br (.getb (.lvar 1) (.var 2) 4)
(.call 4 [.int .i64,.bool] (.cons (.var 2) (.ins (.lvar 1) (.var 2) .nil)) 179
(.br (.and (.beq (.bvar 180) (.tt false)) (.and (.eq (.var 179) (.lit 0)) (.tt true)))
(.br (.lt (.get (.lvar 1) (.var 2) 5) (.lit 0))
.panic
(.br (.lt (.get (.lvar 1) (.var 2) 5) (.lit 11))
(.call 7 (kTy) (.consl (.lapp .lnil (.ins (.lvar 1) (.var 2) .nil)) (.tn (.get (.lvar 1) (.var 2) 5) 3 9 (.tn (.get (.lvar 1) (.var 2) 6) 3 9 .nil))) 181
(.call 6 [.int .i8,.bool] (.cons (.get (.lvar 1) (.var 2) 1) .nil) 190
(.leaf (.consl (.lapp .lnil (.cons (.bin .add .i64 (.var 2) (.lit 1)) (.iv (.eq (.get (.lvar 1) (.var 2) 5) (.lit 0)) 181 3 9 (.iv (.eq (.get (.lvar 1) (.var 2) 5) (.lit 1)) 181 12 9 (.iv (.eq (.get (.lvar 1) (.var 2) 5) (.lit 2)) 181 21 9 (.iv (.eq (.get (.lvar 1) (.var 2) 5) (.lit 3)) 181 30 9 (.iv (.eq (.get (.lvar 1) (.var 2) 5) (.lit 4)) 181 39 9 (.iv (.eq (.get (.lvar 1) (.var 2) 5) (.lit 5)) 181 48 9 (.iv (.eq (.get (.lvar 1) (.var 2) 5) (.lit 6)) 181 57 9 (.iv (.eq (.get (.lvar 1) (.var 2) 5) (.lit 7)) 181 66 9 (.iv (.eq (.get (.lvar 1) (.var 2) 5) (.lit 8)) 181 75 9 (.iv (.eq (.get (.lvar 1) (.var 2) 5) (.lit 9)) 181 84 9 (.iv (.eq (.get (.lvar 1) (.var 2) 5) (.lit 10)) 181 93 9 (.vs 102 72 .nil)))))))))))))) (.cons (.lit 0) .nil)))))
.panic))
(.stuck 260)))
(.call 5 (kSc) (.cons (.conv .u64 (.get (.lvar 1) (.var 2) 8)) .nil) 179
(.call 4 [.int .i64,.bool] (.cons (.var 2) (.ins (.lvar 1) (.var 2) .nil)) 185
(.br (.and (.beq (.bvar 186) (.tt false)) (.and (.eq (.var 185) (.lit 0)) (.tt true)))
(.br (.lt (.get (.lvar 1) (.var 2) 5) (.lit 0))
.panic
(.br (.lt (.get (.lvar 1) (.var 2) 5) (.lit 11))
(.call 7 (kTy) (.consl (.lapp .lnil (.ins (.lvar 1) (.var 2) .nil)) (.tn (.get (.lvar 1) (.var 2) 5) 3 9 (.cons (.lit 1) (.vs 179 6 (.cons (.lit 0) (.cons (.lit 0) .nil)))))) 187
(.call 6 [.int .i8,.bool] (.cons (.get (.lvar 1) (.var 2) 1) .nil) 196
(.leaf (.consl (.lapp .lnil (.cons (.bin .add .i64 (.var 2) (.lit 1)) (.iv (.eq (.get (.lvar 1) (.var 2) 5) (.lit 0)) 187 3 9 (.iv (.eq (.get (.lvar 1) (.var 2) 5) (.lit 1)) 187 12 9 (.iv (.eq (.get (.lvar 1) (.var 2) 5) (.lit 2)) 187 21 9 (.iv (.eq (.get (.lvar 1) (.var 2) 5) (.lit 3)) 187 30 9 (.iv (.eq (.get (.lvar 1) (.var 2) 5) (.lit 4)) 187 39 9 (.iv (.eq (.get (.lvar 1) (.var 2) 5) (.lit 5)) 187 48 9 (.iv (.eq (.get (.lvar 1) (.var 2) 5) (.lit 6)) 187 57 9 (.iv (.eq (.get (.lvar 1) (.var 2) 5) (.lit 7)) 187 66 9 (.iv (.eq (.get (.lvar 1) (.var 2) 5) (.lit 8)) 187 75 9 (.iv (.eq (.get (.lvar 1) (.var 2) 5) (.lit 9)) 187 84 9 (.iv (.eq (.get (.lvar 1) (.var 2) 5) (.lit 10)) 187 93 9 (.vs 102 72 .nil)))))))))))))) (.cons (.lit 0) .nil)))))
.panic))
(.stuck 260)))))
.panic)))))
(.leaf (.consl .lnil (.cons (.lit 2) .nil)))))
(.leaf (.consl .lnil (.cons (.lit 2) .nil)))))
(.leaf (.consl .lnil (.cons (.var 175) .nil)))))
(.stuck 261))
def qV:Spec:={F:=fun k=>match k with | 0=>bs | 1=>jw | 2=>eQ | 3=>lP | 4=>cv | 5=>bo | 6=>db | 7=>cX | _=>fun _=>[],pre:=fun k=>match k with | 0=>bh | 7=>cH | _=>fun _=>True,hw:=sHw,hx:=sHx,hi:=sHi}
def fc:List (Nat×List Pl):=[((800000+36),[.only [],.only [0,0]])]
set_option maxRecDepth 100000 in
theorem aaZ:am tys_VyG [dN 0,tG 1,nr 2,xS 3,gD 4,eh 5,ju 6,jr 7] [(38,Tryz.f38,[(3,[.tmpI 9 .i64,.top 36,.top 37,.top 42,.top 43,.top 44,.top 45,.top 46,.top 47,.top 48,.top 49,.top 6,.top 7,.top 38,.top 39,.top 40,.top 41]),(999999,[]),(999998,[])]++fc,[]),(86,Tryz.f86,[(999999,[]),(999998,[])]++fc,[]),(87,Tryz.f87,[(999999,[]),(999998,[])]++fc,[]),(78,Tryz.f78,[(999999,[]),(999998,[])]++fc,[])] ([(999999,[]),(999997,[]),(999996,[.gone 1,.gone 2,.gone 0,.gone 0])]++fc) [] 200 Tryz.f15 [.agg rS,.one (.int .i64),.agg kSta] [.one (.sl (kN 172 2211221102211221102211221102211221102211221102211221102211221102211221102211221102211221102211221102211221102211221102211221102211221102211221102211221102211221102211221102) 66),.one (.int .i64)] true (.int .i64::(.list (kN 9 220090000)::(.int .i64::(hZ ([]))))) sT_vstepA:=⟨by kernel_rfl,by kernel_rfl,by kernel_rfl⟩
def dK:List Dt→Prop
 | .z x0::.l x1::.z x2::rest=>(let f (p:Prog) (i:Int):Prop:=gt p.l i 0=0∧p.l.length≤maxLen; f ⟨x0,x1⟩ x2)∧noL rest=true
 | _=>False
set_option maxRecDepth 100000 in
set_option maxHeartbeats 8000000 in
theorem aaK (p:Prog) (hp:Prog.ok p) (i:Int) (hi:inK .i64 i=true) (s:Sta) (hs:Sta.ok s) (hp:dK (.z p.ctx::(.l p.l::(.z i::(cg s ([])))))) (ρ:Env) (g:af ρ 0 (.int .i64::(.list (kN 9 220090000)::(.int .i64::(hZ ([])))))=(.z p.ctx::(.l p.l::(.z i::(cg s ([])))))):sT_vstepA.asks qV (fun ρ e=>e.D ρ=dO (.z p.ctx::(.l p.l::(.z i::(cg s ([])))))) ρ fun _ _=>False:=by
 simp only[dK,b2i_one,aj,Prog.eta,Ins.eta,aa,ab] at hp
 have keepg:=g
 simp only[dO,px,pw,rdZ,rdB,jC]
 simp only[cg,d_Ty,hZ,v_Ty,af,varD,List.cons.injEq,Dt.z.injEq,Dt.l.injEq,b2i_eq_iff,Nat.reduceAdd,and_true] at g
 simp(maxSteps:=10000000) only[sT_vstepA,qV,cg,d_Ty,kSc,kTy,jC,rdZ,kg,de,bs,jw,eQ,lP,cv,bo,db,cX,dJ,sZ,nl,xN,gA,ef,jo,jl,dO,lg,bh,cH,Tr.asks,ai,okDs,okD,eqs,E.I,E.B,E.L,E.R,E.D,E.vs,E.gs,E.ins,E.sv,E.tn,E.iv,E.zs,E.pv,Nat.reduceSub,dI,dB,dL,varD,af,S1,Nat.reduceAdd,-eq_self,aj,Prog.eta,Ins.eta,aa,ab,g]
 replace hp:=hp.1
 constructor<;>intro c0
 refine⟨?_,?_⟩
 ·exact hp.2
 intro e; (try simp only[e,aj,Prog.eta,Ins.eta,aa,ab,-eq_self]); clear e
 constructor<;>intro c1
 constructor<;>intro c2
 ·unfold aJ; rw[if_pos (eqI c1),if_neg (fun e=>absurd e.1.1 (by have:=of_decide_eq_true c2; omega))]; try rfl
 constructor<;>intro c3
 intro e; (try simp only[e,aj,Prog.eta,Ins.eta,aa,ab,-eq_self]); clear e
 constructor<;>intro c4
 intro e; (try simp only[e,aj,Prog.eta,Ins.eta,aa,ab,-eq_self]); clear e
 have hok:=eqI c1
 have hi2:0≤i∧i<(p.l.length:Int):=⟨by have:=of_decide_eq_false c2; omega,of_decide_eq_true c3⟩
 have hx:imay (ae p.l i)=true:=aq hp.2 hok hi2.1 hi2.2
 obtain⟨R,hR,hR2,hR3⟩:=uU hx hp.1
 have hd:=eE hx
 refine⟨fun ds=>∃m:Nat,ds=[.z (m:Int)]∧UInv s R m,fun ds=>(dI ds 0).toNat,⟨R,by rw[hR],.init hR2⟩,?_⟩
 intro ρ1 ha1 _ hi1
 obtain⟨m,hds,hU⟩:=hi1
 simp only[List.cons.injEq,Dt.z.injEq,and_true] at hds
 have g1:=(fy ha1 _ 0 (by decide)).trans keepg
 simp only[cg,hZ,d_Ty,v_Ty,af,varD,List.cons.injEq,Dt.z.injEq,Dt.l.injEq,b2i_eq_iff,Nat.reduceAdd,and_true] at g1
 simp only[g1,hds,aa,-eq_self]
 constructor<;>intro c5
 intro e; (try simp only[e,aj,Prog.eta,Ins.eta,aa,ab,-eq_self]); clear e
 constructor<;>intro c6
 ·have q:=(ajN (by have:=of_decide_eq_true c5; omega) hU.lt).1; have:=of_decide_eq_true c6; omega
 constructor<;>intro c7
 constructor<;>intro c8
 ·unfold aJ; rw[if_pos hok,if_pos ⟨hi2,c4⟩,hR,Int.toNat_natCast,if_pos (hU.bad (by have:=of_decide_eq_true c5; omega) c8)]; try rfl
 ·obtain⟨m2,e1,e2,e3⟩:=hU.next (by have:=of_decide_eq_true c5; omega) c8
  exact⟨⟨m2,by rw[e1],e2⟩,by rw[e1]; show((m2:Int)).toNat<((m:Int)).toNat; omega⟩
 ·have q:=(ajN (by have:=of_decide_eq_true c5; omega) hU.lt).2; have:=of_decide_eq_false c7; omega
 constructor<;>intro c9
 ·have q1:0≤gt p.l i 6:=hd.2.2.1; have q2:gt p.l i 6≤10:=hd.2.2.2.1; have:=of_decide_eq_true c9; omega
 constructor<;>intro c10
 constructor<;>intro c11
 intro e; (try simp only[e,aj,Prog.eta,Ins.eta,aa,ab,-eq_self]); clear e
 constructor<;>intro c12
 constructor<;>intro c13
 ·have q1:0≤gt p.l i 5:=hd.1; have q2:gt p.l i 5≤10:=hd.2.1; have:=of_decide_eq_true c13; omega
 constructor<;>intro c14
 refine⟨?_,?_⟩
 ·rfl
 intro e; (try simp only[e,aj,Prog.eta,Ins.eta,aa,ab,-eq_self]); clear e
 intro e; (try simp only[e,aj,Prog.eta,Ins.eta,aa,ab,-eq_self]); clear e
 ·have hz:m=0:=(by have:=of_decide_eq_false c5; omega)
  subst hz
  have hb:bi (ae p.l i) s=tnth s (ae p.l i).s:=(by unfold bi; rw[if_pos (show(ae p.l i).br=true from c11)])
  have e:aJ p i s=([opI .add .i64 i 1::staL (sreg s (ae p.l i).d (valu (ae p.l i) (tnth s (ae p.l i).d) (tnth s (ae p.l i).s)))],0):=(by unfold aJ aluS; rw[if_pos hok,if_pos ⟨hi2,c4⟩,hR,if_neg (by rw[Int.toNat_natCast,hU.good]; simp),hb])
  rw[e]; try rfl
 ·have q1:0≤gt p.l i 5:=hd.1; have q2:gt p.l i 5≤10:=hd.2.1; have:=of_decide_eq_false c14; omega
 ·exact absurd c12 (by rw[acL (show((ae p.l i).k==3)=false by rw[show(ae p.l i).k=0 from hp.1]; rfl) (show((ae p.l i).k==4)=false by rw[show(ae p.l i).k=0 from hp.1]; rfl)]; simp)
 intro e; (try simp only[e,aj,Prog.eta,Ins.eta,aa,ab,-eq_self]); clear e
 intro e; (try simp only[e,aj,Prog.eta,Ins.eta,aa,ab,-eq_self]); clear e
 constructor<;>intro c15
 constructor<;>intro c16
 ·have q1:0≤gt p.l i 5:=hd.1; have q2:gt p.l i 5≤10:=hd.2.1; have:=of_decide_eq_true c16; omega
 constructor<;>intro c17
 refine⟨?_,?_⟩
 ·rfl
 intro e; (try simp only[e,aj,Prog.eta,Ins.eta,aa,ab,-eq_self]); clear e
 intro e; (try simp only[e,aj,Prog.eta,Ins.eta,aa,ab,-eq_self]); clear e
 ·have hz:m=0:=(by have:=of_decide_eq_false c5; omega)
  subst hz
  have hb:bi (ae p.l i) s=tsc (vone (IntKind.u64.wrap (ae p.l i).imm)):=(by unfold bi; rw[if_neg (fun e=>by have e2:(gt p.l i 4==1)=true:=e; rw[c11] at e2; cases e2)])
  have e:aJ p i s=([opI .add .i64 i 1::staL (sreg s (ae p.l i).d (valu (ae p.l i) (tnth s (ae p.l i).d) (tsc (vone (IntKind.u64.wrap (ae p.l i).imm)))))],0):=(by unfold aJ aluS; rw[if_pos hok,if_pos ⟨hi2,c4⟩,hR,if_neg (by rw[Int.toNat_natCast,hU.good]; simp),hb])
  rw[e]; try rfl
 ·have q1:0≤gt p.l i 5:=hd.1; have q2:gt p.l i 5≤10:=hd.2.1; have:=of_decide_eq_false c17; omega
 ·exact absurd c15 (by rw[acL (show((ae p.l i).k==3)=false by rw[show(ae p.l i).k=0 from hp.1]; rfl) (show((ae p.l i).k==4)=false by rw[show(ae p.l i).k=0 from hp.1]; rfl)]; simp)
 ·have q1:0≤gt p.l i 6:=hd.2.2.1; have q2:gt p.l i 6≤10:=hd.2.2.2.1; have:=of_decide_eq_false c10; omega
 ·unfold aJ; rw[if_pos (eqI c1),if_neg (fun e=>by rw[c4] at e; cases e.2)]; try rfl
 ·unfold aJ; rw[if_pos (eqI c1),if_neg (fun e=>absurd e.1.2 (by have:=of_decide_eq_false c3; omega))]; try rfl
 ·unfold aJ; rw[if_neg (neI c1)]; try rfl
 ·exact absurd hp.1 (neI c0)
theorem abN {sp:Spec} {key:Nat} (hF:sp.F key=dO) (hP:sp.pre key=dK) (hH:∀w,sp.hw w→sHw w:=by exact fun _ h=>h):SmOk Tryz.prog sp (lw key):=
 an (s:=lw key) (hW:=hH) hF hP (by kernel_rfl) zo (smc (iq rfl rfl) (smc (ail rfl) (smc (vQ rfl) (smc (aeJ rfl) (smc (lH rfl) (smc (gE rfl) (smc (po rfl) (smc (pk rfl rfl) sm0)))))))) Tryz.func15 (fnc Tryz.func38 (fnc Tryz.func86 (fnc Tryz.func87 (fnc Tryz.func78 fn0)))) aaZ (.inr (.inl ⟨(fun xs h L hL=>by unfold dK at h; split at h<;>first | exact h.elim | (obtain⟨h,hr⟩:=h; simp[acq hr] at hL; subst hL; exact h.2)),rfl⟩)) (fun x0 gx0 x1 gx1 x2 gx2=>ux fun q3 gq3=>fun hp ρ g=>aaK ⟨x0,x1⟩ ⟨gx0,gx1⟩ x2 gx2 q3 gq3 hp ρ g)
end Go.Proofs.YtfkhblmeioiciaaGreatDoor
