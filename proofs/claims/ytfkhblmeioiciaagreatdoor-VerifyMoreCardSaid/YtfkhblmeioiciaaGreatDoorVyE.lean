import Derived.Test.YtfkhblmeioiciaaGreatDoorVyB
import Derived.Test.YtfkhblmeioiciaaGreatDoorLiC
import Derived.Test.YtfkhblmeioiciaaGreatDoorProg
import Derived.Laws.Externs
set_option maxRecDepth 100000
set_option maxHeartbeats 8000000
set_option linter.defProp false
set_option linter.unusedVariables false
set_option linter.unusedSimpArgs false
namespace Go.Proofs.YtfkhblmeioiciaaGreatDoor
open Go.RowKit Go.ChangeShapes Go.WideShapes
def tys_VyE:List (Nat×TI):=[(2,tiq2),
 (3,tiq3),
 (4,tiq4),
 (22,ac2),
 (24,ac1),
 (37,ig),
 (39,aaW),
 (42,fP),
 (44,ic),
 (46,kD),
 (48,dW),
 (50,tO),
 (70,apd),
 (105,yC),
 (167,aj7)]
theorem acL:(tys_VyE.all fun p=>ckTI Tryz.prog p.1 p.2)=true:=by kernel_rfl
theorem tC:(tys_VyE.all fun p=>!p.2.eqok||((Nat.beq p.1 39&&aX p.2.zero oY)||(Nat.beq p.1 48&&aX p.2.zero z_Sc)||(Nat.beq p.1 50&&aX p.2.zero z_Ty)))=true:=by kernel_rfl
theorem acr:(tys_VyE.all fun p=>!p.2.keyok)=true:=by kernel_rfl
theorem mC:∀t i,(t,i)∈tys_VyE->TIok Tryz.prog t i:=by
 intro t i h
 refine bE (cC (f:=ckTI Tryz.prog) acL h) (fun he=> ?_) (fun he=> ?_) (fun he=> ?_)
 ·have h1:=thm7.1 tC (t,i) h
  simp only[he,Bool.not_true,Bool.false_or,bG,thm0] at h1
  rcases h1 with(h1 | h1) | h1
  ·have hs:=h1.2
   obtain rfl:=thm1 h1.1
   exact fun vs us hv hu=>pV vs us (ar hs hv) (ar hs hu)
  ·have hs:=h1.2
   obtain rfl:=thm1 h1.1
   exact fun vs us hv hu=>vK vs us (ar hs hv) (ar hs hu)
  ·have hs:=h1.2
   obtain rfl:=thm1 h1.1
   exact fun vs us hv hu=>vJ vs us (ar hs hv) (ar hs hu)
 ·have h1:=thm7.1 tC (t,i) h
  simp only[he,Bool.not_true,Bool.false_or,bG,thm0] at h1
  rcases h1 with(h1 | h1) | h1
  ·have hs:=h1.2
   obtain rfl:=thm1 h1.1
   exact lc
  ·have hs:=h1.2
   obtain rfl:=thm1 h1.1
   exact lN
  ·have hs:=h1.2
   obtain rfl:=thm1 h1.1
   exact lM
 ·have h1:=thm7.1 acr (t,i) h
  simp[he] at h1
def wZ (key:Nat):Sm:=⟨54,key,[.one (.int .u64)],[.one (.int .i64)],false⟩
def wF (n:Int):List Dt:=[.z (pcnt n)]
def nJ:List Dt->List Dt
 | [.z x0]=>wF x0
 | _=>[]
def ak9:E:=(.bin .add .u64 (.bin .and .u64 (.bin .shr .u64 (.var 0) (.lit 1)) (.lit 6148914691236517205)) (.bin .and .u64 (.var 0) (.lit 6148914691236517205)))
def ala:E:=(.bin .add .u64 (.bin .and .u64 (.bin .shr .u64 ak9 (.lit 2)) (.lit 3689348814741910323)) (.bin .and .u64 ak9 (.lit 3689348814741910323)))
def alb:E:=(.bin .and .u64 (.bin .add .u64 (.bin .shr .u64 ala (.lit 4)) ala) (.lit 1085102592571150095))
def alc:E:=(.bin .add .u64 alb (.bin .shr .u64 alb (.lit 8)))
def ald:E:=(.bin .add .u64 alc (.bin .shr .u64 alc (.lit 16)))
def sT_vcnt:Tr:=
(.leaf (.cons (.bin .and .i64 (.conv .i64 (.bin .add .u64 ald (.bin .shr .u64 ald (.lit 32)))) (.lit 127)) .nil))
def aet:Spec:={F:=fun k=>match k with | _=>fun _=>[],pre:=fun _ _=>True}
theorem am1:ap tys_VyE [] [(107,Tryz.f107,[],[])] [] [] 200 Tryz.f54 [.one (.int .u64)] [.one (.int .i64)] false [.int .u64] sT_vcnt:=⟨by kernel_rfl,by kernel_rfl,by kernel_rfl⟩
def mY:List Dt->Prop
 | [.z x0]=>let f (n:Int):Prop:=1<=n/\n<=8;f x0
 | _=>False
def dy:=And.intro Prog.eta (Ins.eta)
theorem aml (n:Int) (hn:inK .u64 n=true) (hp:mY [.z n]) (U:Env) (g:varsD U 0 [.int .u64]=[.z n]):sT_vcnt.asks aet (fun U e=>e.D U=nJ [.z n]) U fun _ _=>False:=by
 simp only[mY,b2i_one,am,dy,ab,ae] at hp
 simp only[varsD,varD,thm5,gS0,Nat.reduceAdd,and_true] at g
 simp only[sT_vcnt,ald,alc,alb,ala,ak9,aet,nJ,wF,simQ,af,S1,Nat.reduceSub,Nat.reduceAdd,-eq_self,am,dy,ab,ae,g]
 ·(rcases cnt8 hp with rfl | rfl | rfl | rfl | rfl | rfl | rfl | rfl<;>rfl)
theorem anG {sp:Spec} {key:Nat} (hF:sp.F key=nJ) (hP:sp.pre key=mY):SmOk Tryz.prog sp (wZ key):=
 au (s:=wZ key) hF hP (by kernel_rfl) mC (sm0) Tryz.func54 (fnc Tryz.func107 fn0) am1 (.inl rfl) (fun x0 gx0 hp U g=>aml x0 gx0 hp U g)
def aeY (key:Nat):Sm:=⟨18,key,[.agg lV,.agg kTy,.one (.int .i64),.one (.int .i64)],[.one .bool],false⟩
def adQ (p:Prog) (t:Ty) (off:Int) (size:Int):List Dt:=[.z (b2i (aA p.ctx t off size))]
def uP:List Dt->List Dt
 | [.z x0,.l x1,.z x2,.z x3,.z x4,.z x5,.z x6,.z x7,.z x8,.z x9,.z x10,.z x11,.z x12]=>adQ ⟨x0,x1⟩ ⟨x2,x3,x4,x5,x6,x7,x8,x9,x10⟩ x11 x12
 | _=>[]
def ak8:E:=(.bin .add .i64 (.bin .add .i64 (.var 10) (.var 11)) (.var 12))
def sT_vwi:Tr:=
(.br (.eq (.var 2) (.lit 2))
(.br (.lt (.var 12) (.lit 1))
(.leaf (.cb (.tt false) .nil))
(.br (.lt (.lit 8) (.var 12))
(.leaf (.cb (.tt false) .nil))
(.call 0 [.int .i64] (.cons (.conv .u64 (.var 12)) .nil) 13
(.br (.eq (.var 13) (.lit 1))
(.br (.lt (.var 11) (.lit (-1048576)))
(.leaf (.cb (.tt false) .nil))
(.br (.lt (.lit 1048576) (.var 11))
(.leaf (.cb (.tt false) .nil))
(.br (.lt (.var 9) (.lit (-1048576)))
(.leaf (.cb (.tt false) .nil))
(.br (.lt (.lit 1048576) (.var 9))
(.leaf (.cb (.tt false) .nil))
(.br (.lt (.var 10) (.lit (-1048576)))
(.leaf (.cb (.tt false) .nil))
(.br (.lt (.lit 1048576) (.var 10))
(.leaf (.cb (.tt false) .nil))
(.br (.lt (.var 10) (.var 9))
(.leaf (.cb (.tt false) .nil))
(.br (.lt (.bin .add .i64 (.var 9) (.var 11)) (.lit 0))
(.leaf (.cb (.tt false) .nil))
(.leaf (.cb (.not (.lt (.var 0) ak8)) .nil))))))))))
(.leaf (.cb (.tt false) .nil))))))
(.br (.eq (.var 2) (.lit 3))
(.br (.lt (.var 12) (.lit 1))
(.leaf (.cb (.tt false) .nil))
(.br (.lt (.lit 8) (.var 12))
(.leaf (.cb (.tt false) .nil))
(.call 0 [.int .i64] (.cons (.conv .u64 (.var 12)) .nil) 13
(.br (.eq (.var 13) (.lit 1))
(.br (.lt (.var 11) (.lit (-1048576)))
(.leaf (.cb (.tt false) .nil))
(.br (.lt (.lit 1048576) (.var 11))
(.leaf (.cb (.tt false) .nil))
(.br (.lt (.var 9) (.lit (-1048576)))
(.leaf (.cb (.tt false) .nil))
(.br (.lt (.lit 1048576) (.var 9))
(.leaf (.cb (.tt false) .nil))
(.br (.lt (.var 10) (.lit (-1048576)))
(.leaf (.cb (.tt false) .nil))
(.br (.lt (.lit 1048576) (.var 10))
(.leaf (.cb (.tt false) .nil))
(.br (.lt (.var 10) (.var 9))
(.leaf (.cb (.tt false) .nil))
(.br (.lt (.bin .add .i64 (.var 9) (.var 11)) (.lit 0))
(.leaf (.cb (.tt false) .nil))
(.leaf (.cb (.not (.lt (.lit 64) ak8)) .nil))))))))))
(.leaf (.cb (.tt false) .nil))))))
(.leaf (.cb (.tt false) .nil))))
def akc:Spec:={F:=fun k=>match k with | 0=>nJ | _=>fun _=>[],pre:=fun k=>match k with | 0=>mY | _=>fun _=>True}
theorem apI:ap tys_VyE [wZ 0] [(53,Tryz.f53,[],[]),(55,Tryz.f55,[],[])] [(999997,[])] [] 200 Tryz.f18 [.agg lV,.agg kTy,.one (.int .i64),.one (.int .i64)] [.one .bool] false (.int .i64::(.list (kN 9 220090000)::(v_Ty (.int .i64::(.int .i64::([])))))) sT_vwi:=⟨by kernel_rfl,by kernel_rfl,by kernel_rfl⟩
def po:List Dt->Prop
 | [.z x0,.l x1,.z x2,.z x3,.z x4,.z x5,.z x6,.z x7,.z x8,.z x9,.z x10,.z x11,.z x12]=>let f (p:Prog) (t:Ty) (off:Int) (size:Int):Prop:=p.l.length<=maxLen;f ⟨x0,x1⟩ ⟨x2,x3,x4,x5,x6,x7,x8,x9,x10⟩ x11 x12
 | _=>False
theorem apl (p:Prog) (hp:Prog.ok p) (t:Ty) (ht:Ty.ok t) (off:Int) (hoff:inK .i64 off=true) (size:Int) (hsize:inK .i64 size=true) (hp:po (.z p.ctx::(.l p.l::(d_Ty t (.z off::(.z size::([]))))))) (U:Env) (g:varsD U 0 (.int .i64::(.list (kN 9 220090000)::(v_Ty (.int .i64::(.int .i64::([]))))))=(.z p.ctx::(.l p.l::(d_Ty t (.z off::(.z size::([]))))))):sT_vwi.asks akc (fun U e=>e.D U=uP (.z p.ctx::(.l p.l::(d_Ty t (.z off::(.z size::([]))))))) U fun _ _=>False:=by
 simp only[po,d_Ty,b2i_one,am,dy,ab,ae] at hp
 simp only[d_Ty,v_Ty,varsD,varD,thm5,gS0,Nat.reduceAdd,and_true] at g
 simp only[sT_vwi,ak8,akc,d_Ty,nJ,wF,uP,adQ,mY,simQ,af,S1,Nat.reduceSub,Nat.reduceAdd,-eq_self,am,dy,ab,ae,g]
 constructor<;>intro c0
 constructor<;>intro c1
 ·(simp_all [aA,tptr,bO,far2,opI,pcnt,aR,bg]<;>first | omega | (rw[aM];simp;omega))
 constructor<;>intro c2
 ·(simp_all [aA,tptr,bO,far2,opI,pcnt,aR,bg]<;>first | omega | (rw[aM];simp;omega))
 refine⟨?_,?_⟩
 ·(show 1<=IntKind.u64.wrap size/\IntKind.u64.wrap size<=8;rw[bg];have:=thm2 c1;have:=thm2 c2;omega)
 intro e;(try simp only[e,am,dy,ab,ae,-eq_self]);clear e
 constructor<;>intro c3
 constructor<;>intro c4
 ·(simp_all [aA,tptr,bO,far2,opI,pcnt,aR,bg]<;>first | omega | (rw[aM];simp;omega))
 constructor<;>intro c5
 ·(simp_all [aA,tptr,bO,far2,opI,pcnt,aR,bg]<;>first | omega | (rw[aM];simp;omega))
 constructor<;>intro c6
 ·(simp_all [aA,tptr,bO,far2,opI,pcnt,aR,bg]<;>first | omega | (rw[aM];simp;omega))
 constructor<;>intro c7
 ·(simp_all [aA,tptr,bO,far2,opI,pcnt,aR,bg]<;>first | omega | (rw[aM];simp;omega))
 constructor<;>intro c8
 ·(simp_all [aA,tptr,bO,far2,opI,pcnt,aR,bg]<;>first | omega | (rw[aM];simp;omega))
 constructor<;>intro c9
 ·(simp_all [aA,tptr,bO,far2,opI,pcnt,aR,bg]<;>first | omega | (rw[aM];simp;omega))
 constructor<;>intro c10
 ·(simp_all [aA,tptr,bO,far2,opI,pcnt,aR,bg]<;>first | omega | (rw[aM];simp;omega))
 constructor<;>intro c11
 ·(simp_all [aA,tptr,bO,far2,opI,pcnt,aR,bg]<;>first | omega | (rw[aM];simp;omega))
 ·(simp_all [aA,tptr,bO,far2,opI,pcnt,aR,bg]<;>first | omega | (rw[aM];simp;omega))
 ·(simp_all [aA,tptr,bO,far2,opI,pcnt,aR,bg]<;>first | omega | (rw[aM];simp;omega))
 constructor<;>intro c12
 constructor<;>intro c13
 ·(simp_all [aA,tptr,bO,far2,opI,pcnt,aR,bg]<;>first | omega | (rw[aM];simp;omega))
 constructor<;>intro c14
 ·(simp_all [aA,tptr,bO,far2,opI,pcnt,aR,bg]<;>first | omega | (rw[aM];simp;omega))
 refine⟨?_,?_⟩
 ·(show 1<=IntKind.u64.wrap size/\IntKind.u64.wrap size<=8;rw[bg];have:=thm2 c13;have:=thm2 c14;omega)
 intro e;(try simp only[e,am,dy,ab,ae,-eq_self]);clear e
 constructor<;>intro c15
 constructor<;>intro c16
 ·(simp_all [aA,tptr,bO,far2,opI,pcnt,aR,bg]<;>first | omega | (rw[aM];simp;omega))
 constructor<;>intro c17
 ·(simp_all [aA,tptr,bO,far2,opI,pcnt,aR,bg]<;>first | omega | (rw[aM];simp;omega))
 constructor<;>intro c18
 ·(simp_all [aA,tptr,bO,far2,opI,pcnt,aR,bg]<;>first | omega | (rw[aM];simp;omega))
 constructor<;>intro c19
 ·(simp_all [aA,tptr,bO,far2,opI,pcnt,aR,bg]<;>first | omega | (rw[aM];simp;omega))
 constructor<;>intro c20
 ·(simp_all [aA,tptr,bO,far2,opI,pcnt,aR,bg]<;>first | omega | (rw[aM];simp;omega))
 constructor<;>intro c21
 ·(simp_all [aA,tptr,bO,far2,opI,pcnt,aR,bg]<;>first | omega | (rw[aM];simp;omega))
 constructor<;>intro c22
 ·(simp_all [aA,tptr,bO,far2,opI,pcnt,aR,bg]<;>first | omega | (rw[aM];simp;omega))
 constructor<;>intro c23
 ·(simp_all [aA,tptr,bO,far2,opI,pcnt,aR,bg]<;>first | omega | (rw[aM];simp;omega))
 ·(simp_all [aA,tptr,bO,far2,opI,pcnt,aR,bg]<;>first | omega | (rw[aM];simp;omega))
 ·(simp_all [aA,tptr,bO,far2,opI,pcnt,aR,bg]<;>first | omega | (rw[aM];simp;omega))
 ·(simp_all [aA,tptr,bO,far2,opI,pcnt,aR,bg]<;>first | omega | (rw[aM];simp;omega))
theorem ap5 {sp:Spec} {key:Nat} (hF:sp.F key=uP) (hP:sp.pre key=po):SmOk Tryz.prog sp (aeY key):=
 au (s:=aeY key) hF hP (by kernel_rfl) mC (smc (anG rfl rfl) sm0) Tryz.func18 (fnc Tryz.func53 (fnc Tryz.func55 fn0)) apI (.inr (.inl ⟨(fun xs h L hL=>by unfold po at h;split at h<;>first | exact h.elim | (simp at hL;subst hL;exact h)),rfl⟩)) (fun x0 gx0 x1 gx1=>bj fun q1 gq1=>fun x11 gx11 x12 gx12 hp U g=>apl ⟨x0,x1⟩ ⟨gx0,gx1⟩ q1 gq1 x11 gx11 x12 gx12 hp U g)
def xf (key:Nat):Sm:=⟨80,key,[.ptr lV,.one (.el (kN 9 220090000) 39),.agg kTy],[.one (.int .i64),.one (.int .i64),.one .bool],true⟩
def adW (p:Prog) (x:List (List Int)) (t:Ty):List Dt:=[.z (opI .add .i64 t.lo (aa x 0).off),.z (opI .add .i64 t.hi (aa x 0).off),.z (b2i (aA p.ctx t (aa x 0).off (aa x 0).sz))]
def iP:List Dt->List Dt
 | [.z x0,.l x1,.l x2,.z x3,.z x4,.z x5,.z x6,.z x7,.z x8,.z x9,.z x10,.z x11]=>adW ⟨x0,x1⟩ x2 ⟨x3,x4,x5,x6,x7,x8,x9,x10,x11⟩
 | _=>[]
def sT_vacc:Tr:=
(.br (.lt (.lit 0) (.len (.lw 2)))
(.call 0 [.bool] (.cons (.var 0) (.cL (.lw 1) (.vs 3 9 (.cons (.get (.lw 2) (.lit 0) 7) (.cons (.conv .i64 (.get (.lw 2) (.lit 0) 3)) .nil))))) 12
(.leaf (.cons (.bin .add .i64 (.var 10) (.get (.lw 2) (.lit 0) 7)) (.cons (.bin .add .i64 (.var 11) (.get (.lw 2) (.lit 0) 7)) (.cb (.bw 12) .nil)))))
(.stuck 54))
def aey:Spec:={F:=fun k=>match k with | 0=>uP | _=>fun _=>[],pre:=fun k=>match k with | 0=>po | _=>fun _=>True}
theorem am6:ap tys_VyE [aeY 0] [] [] [] 200 Tryz.f80 [.ptr lV,.one (.el (kN 9 220090000) 39),.agg kTy] [.one (.int .i64),.one (.int .i64),.one .bool] true (.int .i64::(.list (kN 9 220090000)::(.list (kN 9 220090000)::(v_Ty ([]))))) sT_vacc:=⟨by kernel_rfl,by kernel_rfl,by kernel_rfl⟩
def nb:List Dt->Prop
 | [.z x0,.l x1,.l x2,.z x3,.z x4,.z x5,.z x6,.z x7,.z x8,.z x9,.z x10,.z x11]=>let f (p:Prog) (x:List (List Int)) (t:Ty):Prop:=x.length=1/\p.l.length<=maxLen;f ⟨x0,x1⟩ x2 ⟨x3,x4,x5,x6,x7,x8,x9,x10,x11⟩
 | _=>False
theorem amq (p:Prog) (hp:Prog.ok p) (x:List (List Int)) (hx:RowsIn (kN 9 220090000) x) (t:Ty) (ht:Ty.ok t) (hp:nb (.z p.ctx::(.l p.l::(.l x::(d_Ty t ([])))))) (U:Env) (g:varsD U 0 (.int .i64::(.list (kN 9 220090000)::(.list (kN 9 220090000)::(v_Ty ([])))))=(.z p.ctx::(.l p.l::(.l x::(d_Ty t ([])))))):sT_vacc.asks aey (fun U e=>e.D U=iP (.z p.ctx::(.l p.l::(.l x::(d_Ty t ([])))))) U fun _ _=>False:=by
 simp only[nb,d_Ty,b2i_one,am,dy,ab,ae] at hp
 simp only[d_Ty,v_Ty,varsD,varD,thm5,gS0,Nat.reduceAdd,and_true] at g
 simp only[sT_vacc,aey,d_Ty,uP,adQ,iP,adW,po,simQ,af,S1,Nat.reduceSub,Nat.reduceAdd,-eq_self,am,dy,ab,ae,g]
 constructor<;>intro c0
 refine⟨?_,?_⟩
 ·exact hp.2
 intro e;(try simp only[e,am,dy,ab,ae,-eq_self]);clear e
 ·(rw[aqK (aqT (fun r hr=>ve (hx.row r hr) (c:=3) (k:=some .i8) rfl) 0)];rfl)
 ·(rw[hp.1] at c0;simp at c0)
theorem anK {sp:Spec} {key:Nat} (hF:sp.F key=iP) (hP:sp.pre key=nb):SmOk Tryz.prog sp (xf key):=
 au (s:=xf key) hF hP (by kernel_rfl) mC (smc (ap5 rfl rfl) sm0) Tryz.func80 fn0 am6 (.inr (.inl ⟨(fun xs h L hL=>by unfold nb at h;split at h<;>first | exact h.elim | (simp at hL;rcases hL with rfl | rfl;exact h.2;rw[h.1];unfold maxLen;omega)),rfl⟩)) (fun x0 gx0 x1 gx1 x2 gx2=>bj fun q3 gq3=>fun hp U g=>amq ⟨x0,x1⟩ ⟨gx0,gx1⟩ x2 gx2 q3 gq3 hp U g)
end Go.Proofs.YtfkhblmeioiciaaGreatDoor
