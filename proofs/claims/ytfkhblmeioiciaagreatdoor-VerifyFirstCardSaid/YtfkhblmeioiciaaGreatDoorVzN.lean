import Derived.Test.YtfkhblmeioiciaaGreatDoorVzM
import Derived.Test.YtfkhblmeioiciaaGreatDoorVzC
import Derived.Test.YtfkhblmeioiciaaGreatDoorProg
import Derived.Laws.Externs
set_option maxRecDepth 100000
set_option maxHeartbeats 8000000
set_option linter.unusedVariables false
set_option linter.unusedSimpArgs false
namespace Go.Proofs.YtfkhblmeioiciaaGreatDoor
open Go.RowKit Go.ChangeShapes Go.WideShapes
def tys_VzN:List (Nat×TI):=[(2,⟨false,1,[.int .i64 (.lit 0)],[],none,some .i64,false,false,none,8,false,none,false,0⟩),
 (3,⟨false,1,[.int .i64 (.lit 0)],[],none,some .i64,false,false,none,8,false,none,false,0⟩),
 (4,⟨false,1,[.bool (.tt false)],[],none,none,false,true,none,1,false,none,false,0⟩),
 (22,⟨false,1,[.nsl],[],none,none,false,false,some 39,24,false,none,false,0⟩),
 (24,⟨true,2,[.int .i64 (.lit 0),.nsl],[(0,3),(1,22)],none,none,false,false,none,32,false,none,false,0⟩),
 (27,⟨false,1,[.int .i64 (.lit 0)],[],none,some .i64,false,false,none,8,false,none,false,0⟩),
 (30,⟨false,1,[.nsl],[],none,none,false,false,some 4,24,false,none,false,0⟩),
 (31,⟨false,1,[.nsl],[],none,none,false,false,some 54,24,false,none,false,0⟩),
 (33,⟨true,2,[.nsl,.nsl],[(0,30),(1,31)],none,none,false,false,none,48,false,none,false,0⟩),
 (37,⟨false,1,[.int .i8 (.lit 0)],[],none,some .i8,false,false,none,1,false,none,false,0⟩),
 (39,⟨true,9,(zN 9 220090000),[(0,37),(1,37),(2,37),(3,37),(4,4),(5,37),(6,37),(7,3),(8,3)],none,none,true,false,none,24,false,none,false,0⟩),
 (42,⟨false,1,[.int .u64 (.lit 0)],[],none,some .u64,false,false,none,8,false,none,false,0⟩),
 (44,⟨true,4,(zN 4 2211),[(0,42),(1,42),(2,2),(3,2)],none,none,false,false,none,32,false,none,false,0⟩),
 (46,⟨true,2,[.int .u64 (.lit 0),.int .u64 (.lit 0)],[(0,42),(1,42)],none,none,false,false,none,16,false,none,false,0⟩),
 (48,⟨true,6,(zN 6 112211),[(0,44),(4,46)],none,none,true,false,none,48,false,none,false,0⟩),
 (50,⟨true,9,(zN 9 221122110),[(0,37),(1,48),(7,3),(8,3)],none,none,true,false,none,72,false,none,false,0⟩),
 (51,⟨true,99,(zN 99 221122110221122110221122110221122110221122110221122110221122110221122110221122110221122110221122110),[],some (11,50),none,false,false,none,792,false,none,false,0⟩),
 (52,⟨true,72,(zN 72 221122110221122110221122110221122110221122110221122110221122110221122110),[],some (8,50),none,false,false,none,576,false,none,false,0⟩),
 (54,⟨true,171,(zN 171 221122110221122110221122110221122110221122110221122110221122110221122110221122110221122110221122110221122110221122110221122110221122110221122110221122110221122110221122110),[(0,51),(99,52)],none,none,false,false,none,1368,false,none,false,0⟩)]
theorem acn:(tys_VzN.all fun p=>ckTI Tryz.prog p.1 p.2)=true:=by kernel_rfl
theorem sQ:(tys_VzN.all fun p=>!p.2.eqok||((Nat.beq p.1 39&&aY p.2.zero oL)||(Nat.beq p.1 48&&aY p.2.zero z_Sc)||(Nat.beq p.1 50&&aY p.2.zero z_Ty)))=true:=by kernel_rfl
theorem ab2:(tys_VzN.all fun p=>!p.2.keyok)=true:=by kernel_rfl
theorem sH:∀t i,(t,i)∈tys_VzN->TIok Tryz.prog t i:=by
 intro t i h
 refine bC (cz (f:=ckTI Tryz.prog) acn h) (fun he=> ?_) (fun he=> ?_) (fun he=> ?_)
 ·have h1:=thm7.1 sQ (t,i) h
  simp only[he,Bool.not_true,Bool.false_or,Bool.or_eq_true,thm0] at h1
  rcases h1 with(h1 | h1) | h1
  ·have hs:=h1.2
   obtain rfl:=thm1 h1.1
   exact fun vs us hv hu=>pC vs us (au hs hv) (au hs hu)
  ·have hs:=h1.2
   obtain rfl:=thm1 h1.1
   exact fun vs us hv hu=>vn vs us (au hs hv) (au hs hu)
  ·have hs:=h1.2
   obtain rfl:=thm1 h1.1
   exact fun vs us hv hu=>vm vs us (au hs hv) (au hs hu)
 ·have h1:=thm7.1 sQ (t,i) h
  simp only[he,Bool.not_true,Bool.false_or,Bool.or_eq_true,thm0] at h1
  rcases h1 with(h1 | h1) | h1
  ·have hs:=h1.2
   obtain rfl:=thm1 h1.1
   exact kP
  ·have hs:=h1.2
   obtain rfl:=thm1 h1.1
   exact lz
  ·have hs:=h1.2
   obtain rfl:=thm1 h1.1
   exact ly
 ·have h1:=thm7.1 ab2 (t,i) h
  simp[he] at h1
def wx (key:Nat):Sm:=⟨10,key,[],[.one .bool],false⟩
def rE:List Dt->List Dt
 | []=>[.z (b2i true)]
 | _=>[]
def sT_vwak:Tr:=
(.call 0 ([.sl [none] 4,.sl (kN 171 221122110221122110221122110221122110221122110221122110221122110221122110221122110221122110221122110221122110221122110221122110221122110221122110221122110221122110221122110) 54]++[.int .i64]++[.int .i64]) (.cons (.lit 0) (.consl (.lcat (.lapp .lnil (.zs [0,11,64,0] (.consb (.tt false) (.zs [0,0,0,0] .nil)))) (.lapp .lnil (.zs [6,0,0,0] (.consb (.tt false) (.zs [0,0,0,0] .nil))))) .nil)) 0
(.call 0 ([.sl [none] 4,.sl (kN 171 221122110221122110221122110221122110221122110221122110221122110221122110221122110221122110221122110221122110221122110221122110221122110221122110221122110221122110221122110) 54]++[.int .i64]++[.int .i64]) (.cons (.lit 0) (.consl (.lapp .lnil (.zs [6,0,0,0] (.consb (.tt false) (.zs [0,0,0,0] .nil)))) .nil)) 4
(.call 0 ([.sl [none] 4,.sl (kN 171 221122110221122110221122110221122110221122110221122110221122110221122110221122110221122110221122110221122110221122110221122110221122110221122110221122110221122110221122110) 54]++[.int .i64]++[.int .i64]) (.cons (.lit 4) (.consl (.lcat (.lapp .lnil (.zs [1,0,0,8] (.consb (.tt false) (.zs [0,1,0,0] .nil)))) (.lapp .lnil (.zs [6,0,0,0] (.consb (.tt false) (.zs [0,0,0,0] .nil))))) .nil)) 8
(.br (.eq (.var 3) (.lit 0))
(.br (.eq (.var 7) (.lit 110))
(.br (.eq (.var 10) (.lit 0))
(.leaf (.consb (.eq (.var 11) (.lit 111)) .nil))
(.leaf (.consb (.tt false) .nil)))
(.leaf (.consb (.tt false) .nil)))
(.leaf (.consb (.tt false) .nil))))))
def amc:Spec:={F:=fun k=>match k with | 0=>nr | _=>fun _=>[],pre:=fun k=>match k with | 0=>kq | _=>fun _=>True,hw:=sHw,hx:=sHx,hi:=sHi}
theorem aly:aq tys_VzN [qQ 0] [(34,Tryz.f34,[],[])] [] [] 200 Tryz.f10 [] [.one .bool] false [] sT_vwak:=⟨by kernel_rfl,by kernel_rfl,by kernel_rfl⟩
theorem akQ (U:Env) (g:ab U 0 []=[]):sT_vwak.asks amc (fun U e=>e.D U=rE []) U fun _ _=>False:=by
 unfold sT_vwak
 refine aN (xs:=[.z 0,.l [[0,11,64,0,0,0,0,0,0],[6,0,0,0,0,0,0,0,0]]]) rfl (Nat.le_of_ble_eq_true (by kernel_rfl)) (fun e=> ?_)
 have a1:U.i 3=0:=e.2.2.2.1.trans ank
 clear e
 refine aN (xs:=[.z 0,.l [[6,0,0,0,0,0,0,0,0]]]) rfl (Nat.le_of_ble_eq_true (by kernel_rfl)) (fun e=> ?_)
 have a2:U.i 7=110:=e.2.2.2.1.trans ai5
 clear e
 refine aN (xs:=[.z 4,.l [[1,0,0,8,0,0,1,0,0],[6,0,0,0,0,0,0,0,0]]]) rfl (Nat.le_of_ble_eq_true (by kernel_rfl)) (fun e=> ?_)
 have a3:U.i 10=0:=e.2.2.1.trans (congrArg Prod.fst aae)
 have a4:U.i 11=111:=e.2.2.2.1.trans (congrArg Prod.snd aae)
 clear e
 refine⟨fun _=>⟨fun _=>⟨fun _=> ?_,fun c=> ?_⟩,fun c=> ?_⟩,fun c=> ?_⟩
 ·show[Dt.z (b2i (U.i 11==111))]=[.z (b2i true)]
  rw[a4]; rfl
 ·rw[show(E.eq (.var 10) (.lit 0)).B U=(U.i 10==0) from rfl,a3] at c
  cases c
 ·rw[show(E.eq (.var 7) (.lit 110)).B U=(U.i 7==110) from rfl,a2] at c
  cases c
 ·rw[show(E.eq (.var 3) (.lit 0)).B U=(U.i 3==0) from rfl,a1] at c
  cases c
theorem amf {sp:Spec} {key:Nat} (hF:sp.F key=rE) (hP:sp.pre key=fun _=>True:=by rfl) (hH:∀w,sp.hw w->sHw w:=by exact fun _ h=>h):SmOk Tryz.prog sp (wx key):=
 av (s:=wx key) (hW:=hH) hF hP (by kernel_rfl) sH (smc (aeJ rfl rfl) sm0) Tryz.func10 (fnc Tryz.func34 fn0) aly (.inl rfl) (fun hp U g=>akQ U g)
def nc (key:Nat):Sm:=⟨9,key,[.agg lH],[.one .bool],false⟩
def mF (pr:Prog):List Dt:=[.z (b2i (decide ((100:Int)<(pr.l.length:Int))))]
def fU:List Dt->List Dt
 | [.z x0,.l x1]=>mF ⟨x0,x1⟩
 | _=>[]
def sT_lgreat:Tr:=
(.leaf (.consb (.lt (.lit 100) (.len (.lvar 1))) .nil))
def ue:Spec:={F:=fun k=>match k with | _=>fun _=>[],pre:=fun k=>match k with | _=>fun _=>True}
theorem adS:aq tys_VzN [] [] [] [] 200 Tryz.f9 [.agg lH] [.one .bool] false [.int .i64,.list (kN 9 220090000)] sT_lgreat:=⟨by kernel_rfl,by kernel_rfl,by kernel_rfl⟩
def eC:List Dt->Prop
 | [.z x0,.l x1]=>let f (pr:Prog):Prop:=pr.l.length<=maxLen; f ⟨x0,x1⟩
 | _=>False
theorem adm (pr:Prog) (hpr:Prog.ok pr) (hp:eC [.z pr.ctx,.l pr.l]) (U:Env) (g:ab U 0 [.int .i64,.list (kN 9 220090000)]=[.z pr.ctx,.l pr.l]):sT_lgreat.asks ue (fun U e=>e.D U=fU [.z pr.ctx,.l pr.l]) U fun _ _=>False:=by
 simp only[eC,b2i_one,ao,Prog.eta,Ins.eta,ae,af] at hp
 simp only[ab,varD,thm5,Dt.z.injEq,Dt.l.injEq,b2i_eq_iff,Nat.reduceAdd,and_true] at g
 simp only[sT_lgreat,ue,fU,mF,Tr.asks,ah,okDs,okD,eqs,E.I,E.B,E.L,E.R,E.D,E.vs,E.gs,E.ins,E.sv,E.tn,E.iv,E.zs,E.zr,E.sg,E.tg,E.rg,E.rgs,E.pv,Nat.reduceSub,dI,dB,dL,varD,ab,S1,Nat.reduceAdd,-eq_self,ao,Prog.eta,Ins.eta,ae,af,g]
 ·try rfl
theorem ae1 {sp:Spec} {key:Nat} (hF:sp.F key=fU) (hP:sp.pre key=eC):SmOk Tryz.prog sp (nc key):=
 av (s:=nc key) hF hP (by kernel_rfl) sH (sm0) Tryz.func9 fn0 adS (.inr (.inl ⟨(fun xs h L hL=>by unfold eC at h; split at h<;>first | exact h.elim | (simp at hL; subst hL; exact h)),rfl⟩)) (fun x0 gx0 x1 gx1 hp U g=>adm ⟨x0,x1⟩ ⟨gx0,gx1⟩ hp U g)
end Go.Proofs.YtfkhblmeioiciaaGreatDoor
