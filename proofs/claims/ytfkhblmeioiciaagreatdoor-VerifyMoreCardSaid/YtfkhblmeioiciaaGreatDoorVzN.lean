import Derived.Test.YtfkhblmeioiciaaGreatDoorVzM
import Derived.Test.YtfkhblmeioiciaaGreatDoorVzC
import Derived.Test.YtfkhblmeioiciaaGreatDoorProg
import Derived.Laws.Externs
set_option maxRecDepth 100000
set_option maxHeartbeats 8000000
set_option linter.defProp false
set_option linter.unusedVariables false
set_option linter.unusedSimpArgs false
namespace Go.Proofs.YtfkhblmeioiciaaGreatDoor
open Go.RowKit Go.ChangeShapes Go.WideShapes
def tys_VzN:List (Nat×TI):=[(2,tiq2),
 (3,tiq3),
 (4,tiq4),
 (22,ac2),
 (24,ac1),
 (27,ahA),
 (30,alV),
 (31,alU),
 (33,alT),
 (37,ig),
 (39,aaW),
 (42,fP),
 (44,ic),
 (46,kD),
 (48,dW),
 (50,tO),
 (51,wk),
 (52,wj),
 (54,ac0)]
theorem acI:(tys_VzN.all fun p=>ckTI Tryz.prog p.1 p.2)=true:=by kernel_rfl
theorem tx:(tys_VzN.all fun p=>!p.2.eqok||((Nat.beq p.1 39&&aX p.2.zero oY)||(Nat.beq p.1 48&&aX p.2.zero z_Sc)||(Nat.beq p.1 50&&aX p.2.zero z_Ty)))=true:=by kernel_rfl
theorem aco:(tys_VzN.all fun p=>!p.2.keyok)=true:=by kernel_rfl
theorem te:∀t i,(t,i)∈tys_VzN->TIok Tryz.prog t i:=by
 intro t i h
 refine bE (cC (f:=ckTI Tryz.prog) acI h) (fun he=> ?_) (fun he=> ?_) (fun he=> ?_)
 ·have h1:=thm7.1 tx (t,i) h
  simp only[he,Bool.not_true,Bool.false_or,bG,thm0] at h1
  rcases h1 with(h1 | h1) | h1
  ·have hs:=h1.2
   obtain rfl:=thm1 h1.1
   exact fun vs us hv hu=>pV vs us (ar hs hv) (ar hs hu)
  ·have hs:=h1.2
   obtain rfl:=thm1 h1.1
   exact fun vs us hv hu=>vK vs us (ar hs hv) (ar hs hu)
  ·have hs:=h1.2
   obtain rfl:=thm1 h1.1
   exact fun vs us hv hu=>vJ vs us (ar hs hv) (ar hs hu)
 ·have h1:=thm7.1 tx (t,i) h
  simp only[he,Bool.not_true,Bool.false_or,bG,thm0] at h1
  rcases h1 with(h1 | h1) | h1
  ·have hs:=h1.2
   obtain rfl:=thm1 h1.1
   exact lc
  ·have hs:=h1.2
   obtain rfl:=thm1 h1.1
   exact lN
  ·have hs:=h1.2
   obtain rfl:=thm1 h1.1
   exact lM
 ·have h1:=thm7.1 aco (t,i) h
  simp[he] at h1
def wU (key:Nat):Sm:=⟨10,key,[],[.one .bool],false⟩
def rU:List Dt->List Dt
 | []=>[.z (b2i true)]
 | _=>[]
def sT_vwak:Tr:=
(.call 0 ([.sl [none] 4,.sl (kN 171 221122110221122110221122110221122110221122110221122110221122110221122110221122110221122110221122110221122110221122110221122110221122110221122110221122110221122110221122110) 54]++[.int .i64]++[.int .i64]) (.cons (.lit 0) (.cL (.lcat (.lq .ln (.zs [0,11,64,0] (.cb (.tt false) (.zs [0,0,0,0] .nil)))) (.lq .ln (.zs [6,0,0,0] (.cb (.tt false) (.zs [0,0,0,0] .nil))))) .nil)) 0
(.call 0 ([.sl [none] 4,.sl (kN 171 221122110221122110221122110221122110221122110221122110221122110221122110221122110221122110221122110221122110221122110221122110221122110221122110221122110221122110221122110) 54]++[.int .i64]++[.int .i64]) (.cons (.lit 0) (.cL (.lq .ln (.zs [6,0,0,0] (.cb (.tt false) (.zs [0,0,0,0] .nil)))) .nil)) 4
(.call 0 ([.sl [none] 4,.sl (kN 171 221122110221122110221122110221122110221122110221122110221122110221122110221122110221122110221122110221122110221122110221122110221122110221122110221122110221122110221122110) 54]++[.int .i64]++[.int .i64]) (.cons (.lit 4) (.cL (.lcat (.lq .ln (.zs [1,0,0,8] (.cb (.tt false) (.zs [0,1,0,0] .nil)))) (.lq .ln (.zs [6,0,0,0] (.cb (.tt false) (.zs [0,0,0,0] .nil))))) .nil)) 8
(.br (.eq (.var 3) (.lit 0))
(.br (.eq (.var 7) (.lit 110))
(.br (.eq (.var 10) (.lit 0))
(.leaf (.cb (.eq (.var 11) (.lit 111)) .nil))
(.leaf (.cb (.tt false) .nil)))
(.leaf (.cb (.tt false) .nil)))
(.leaf (.cb (.tt false) .nil))))))
def anx:Spec:={F:=fun k=>match k with | 0=>nG | _=>fun _=>[],pre:=fun k=>match k with | 0=>kJ | _=>fun _=>True,hw:=sHw,hx:=sHx,hi:=sHi}
theorem amS:ap tys_VzN [rm 0] [(34,Tryz.f34,[],[])] [] [] 200 Tryz.f10 [] [.one .bool] false [] sT_vwak:=⟨by kernel_rfl,by kernel_rfl,by kernel_rfl⟩
theorem amc (U:Env) (g:varsD U 0 []=[]):sT_vwak.asks anx (fun U e=>e.D U=rU []) U fun _ _=>False:=by
 unfold sT_vwak
 refine aK (xs:=[.z 0,.l [[0,11,64,0,0,0,0,0,0],[6,0,0,0,0,0,0,0,0]]]) rfl (Nat.le_of_ble_eq_true (by kernel_rfl)) (fun e=> ?_)
 have a1:U.i 3=0:=e.2.2.2.1.trans aoE
 clear e
 refine aK (xs:=[.z 0,.l [[6,0,0,0,0,0,0,0,0]]]) rfl (Nat.le_of_ble_eq_true (by kernel_rfl)) (fun e=> ?_)
 have a2:U.i 7=110:=e.2.2.2.1.trans ajI
 clear e
 refine aK (xs:=[.z 4,.l [[1,0,0,8,0,0,1,0,0],[6,0,0,0,0,0,0,0,0]]]) rfl (Nat.le_of_ble_eq_true (by kernel_rfl)) (fun e=> ?_)
 have a3:U.i 10=0:=e.2.2.1.trans (congrArg Prod.fst aay)
 have a4:U.i 11=111:=e.2.2.2.1.trans (congrArg Prod.snd aay)
 clear e
 refine⟨fun _=>⟨fun _=>⟨fun _=> ?_,fun c=> ?_⟩,fun c=> ?_⟩,fun c=> ?_⟩
 ·show[Dt.z (b2i (U.i 11==111))]=[.z (b2i true)]
  rw[a4];rfl
 ·rw[show(E.eq (.var 10) (.lit 0)).B U=(U.i 10==0) from rfl,a3] at c
  cases c
 ·rw[show(E.eq (.var 7) (.lit 110)).B U=(U.i 7==110) from rfl,a2] at c
  cases c
 ·rw[show(E.eq (.var 3) (.lit 0)).B U=(U.i 3==0) from rfl,a1] at c
  cases c
theorem anB {sp:Spec} {key:Nat} (hF:sp.F key=rU) (hP:sp.pre key=fun _=>True:=by rfl) (hH:∀w,sp.hw w->sHw w:=by exact fun _ h=>h):SmOk Tryz.prog sp (wU key):=
 au (s:=wU key) (hW:=hH) hF hP (by kernel_rfl) te (smc (ae9 rfl rfl) sm0) Tryz.func10 (fnc Tryz.func34 fn0) amS (.inl rfl) (fun hp U g=>amc U g)
def ns (key:Nat):Sm:=⟨9,key,[.agg lV],[.one .bool],false⟩
def mR (pr:Prog):List Dt:=[.z (b2i (decide ((100:Int)<(pr.l.length:Int))))]
def gp:List Dt->List Dt
 | [.z x0,.l x1]=>mR ⟨x0,x1⟩
 | _=>[]
def sT_lgreat:Tr:=
(.leaf (.cb (.lt (.lit 100) (.len (.lw 1))) .nil))
def uG:Spec:={F:=fun k=>match k with | _=>fun _=>[],pre:=fun _ _=>True}
theorem aeh:ap tys_VzN [] [] [] [] 200 Tryz.f9 [.agg lV] [.one .bool] false [.int .i64,.list (kN 9 220090000)] sT_lgreat:=⟨by kernel_rfl,by kernel_rfl,by kernel_rfl⟩
def eR:List Dt->Prop
 | [.z x0,.l x1]=>let f (pr:Prog):Prop:=pr.l.length<=maxLen;f ⟨x0,x1⟩
 | _=>False
theorem adL (pr:Prog) (hpr:Prog.ok pr) (hp:eR [.z pr.ctx,.l pr.l]) (U:Env) (g:varsD U 0 [.int .i64,.list (kN 9 220090000)]=[.z pr.ctx,.l pr.l]):sT_lgreat.asks uG (fun U e=>e.D U=gp [.z pr.ctx,.l pr.l]) U fun _ _=>False:=by
 simp only[eR,b2i_one,am,Prog.eta,Ins.eta,ab,ae] at hp
 simp only[varsD,varD,thm5,gS0,Nat.reduceAdd,and_true] at g
 simp only[sT_lgreat,uG,gp,mR,simQ,af,S1,Nat.reduceSub,Nat.reduceAdd,-eq_self,am,Prog.eta,Ins.eta,ab,ae,g]
 ·try rfl
theorem afr {sp:Spec} {key:Nat} (hF:sp.F key=gp) (hP:sp.pre key=eR):SmOk Tryz.prog sp (ns key):=
 au (s:=ns key) hF hP (by kernel_rfl) te (sm0) Tryz.func9 fn0 aeh (.inr (.inl ⟨(fun xs h L hL=>by unfold eR at h;split at h<;>first | exact h.elim | (simp at hL;subst hL;exact h)),rfl⟩)) (fun x0 gx0 x1 gx1 hp U g=>adL ⟨x0,x1⟩ ⟨gx0,gx1⟩ hp U g)
end Go.Proofs.YtfkhblmeioiciaaGreatDoor
