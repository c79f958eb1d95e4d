import Derived.Test.YtfkhblmeioiciaaGreatDoorVzE
import Derived.Test.YtfkhblmeioiciaaGreatDoorVzC
import Derived.Test.YtfkhblmeioiciaaGreatDoorVzN
import Derived.Test.YtfkhblmeioiciaaGreatDoorVyB
import Derived.Test.YtfkhblmeioiciaaGreatDoorLiQ
import Derived.Test.YtfkhblmeioiciaaGreatDoorProg
import Derived.Laws.Externs
set_option maxRecDepth 100000
set_option maxHeartbeats 8000000
set_option linter.unusedVariables false
set_option linter.unusedSimpArgs false
namespace Go.Proofs.YtfkhblmeioiciaaGreatDoor
open Go.RowKit Go.ChangeShapes Go.WideShapes
def tys_VzG:List (Nat×TI):=[(2,⟨false,1,[.int .i64 (.lit 0)],[],none,some .i64,false,false,none,8,false,none,false,0⟩),
 (3,⟨false,1,[.int .i64 (.lit 0)],[],none,some .i64,false,false,none,8,false,none,false,0⟩),
 (4,⟨false,1,[.bool (.tt false)],[],none,none,false,true,none,1,false,none,false,0⟩),
 (22,⟨false,1,[.nsl],[],none,none,false,false,some 39,24,false,none,false,0⟩),
 (24,⟨true,2,[.int .i64 (.lit 0),.nsl],[(0,3),(1,22)],none,none,false,false,none,32,false,none,false,0⟩),
 (27,⟨false,1,[.int .i64 (.lit 0)],[],none,some .i64,false,false,none,8,false,none,false,0⟩),
 (30,⟨false,1,[.nsl],[],none,none,false,false,some 4,24,false,none,false,0⟩),
 (31,⟨false,1,[.nsl],[],none,none,false,false,some 54,24,false,none,false,0⟩),
 (33,⟨true,2,[.nsl,.nsl],[(0,30),(1,31)],none,none,false,false,none,48,false,none,false,0⟩),
 (37,⟨false,1,[.int .i8 (.lit 0)],[],none,some .i8,false,false,none,1,false,none,false,0⟩),
 (39,⟨true,9,(zN 9 220090000),[(0,37),(1,37),(2,37),(3,37),(4,4),(5,37),(6,37),(7,3),(8,3)],none,none,true,false,none,24,false,none,false,0⟩),
 (42,⟨false,1,[.int .u64 (.lit 0)],[],none,some .u64,false,false,none,8,false,none,false,0⟩),
 (44,⟨true,4,(zN 4 2211),[(0,42),(1,42),(2,2),(3,2)],none,none,false,false,none,32,false,none,false,0⟩),
 (46,⟨true,2,[.int .u64 (.lit 0),.int .u64 (.lit 0)],[(0,42),(1,42)],none,none,false,false,none,16,false,none,false,0⟩),
 (48,⟨true,6,(zN 6 112211),[(0,44),(4,46)],none,none,true,false,none,48,false,none,false,0⟩),
 (50,⟨true,9,(zN 9 221122110),[(0,37),(1,48),(7,3),(8,3)],none,none,true,false,none,72,false,none,false,0⟩),
 (51,⟨true,99,(zN 99 221122110221122110221122110221122110221122110221122110221122110221122110221122110221122110221122110),[],some (11,50),none,false,false,none,792,false,none,false,0⟩),
 (52,⟨true,72,(zN 72 221122110221122110221122110221122110221122110221122110221122110221122110),[],some (8,50),none,false,false,none,576,false,none,false,0⟩),
 (54,⟨true,171,(zN 171 221122110221122110221122110221122110221122110221122110221122110221122110221122110221122110221122110221122110221122110221122110221122110221122110221122110221122110221122110),[(0,51),(99,52)],none,none,true,false,none,1368,false,none,false,0⟩)]
theorem aco:(tys_VzG.all fun p=>ckTI Tryz.prog p.1 p.2)=true:=by kernel_rfl
theorem sR:(tys_VzG.all fun p=>!p.2.eqok||((Nat.beq p.1 39&&aY p.2.zero oL)||(Nat.beq p.1 48&&aY p.2.zero z_Sc)||(Nat.beq p.1 50&&aY p.2.zero z_Ty)||(Nat.beq p.1 54&&aY p.2.zero aaw)))=true:=by kernel_rfl
theorem ab3:(tys_VzG.all fun p=>!p.2.keyok)=true:=by kernel_rfl
theorem abV:∀t i,(t,i)∈tys_VzG->TIok Tryz.prog t i:=by
 intro t i h
 refine bC (cz (f:=ckTI Tryz.prog) aco h) (fun he=> ?_) (fun he=> ?_) (fun he=> ?_)
 ·have h1:=thm7.1 sR (t,i) h
  simp only[he,Bool.not_true,Bool.false_or,Bool.or_eq_true,thm0] at h1
  rcases h1 with((h1 | h1) | h1) | h1
  ·have hs:=h1.2
   obtain rfl:=thm1 h1.1
   exact fun vs us hv hu=>pC vs us (au hs hv) (au hs hu)
  ·have hs:=h1.2
   obtain rfl:=thm1 h1.1
   exact fun vs us hv hu=>vn vs us (au hs hv) (au hs hu)
  ·have hs:=h1.2
   obtain rfl:=thm1 h1.1
   exact fun vs us hv hu=>vm vs us (au hs hv) (au hs hu)
  ·have hs:=h1.2
   obtain rfl:=thm1 h1.1
   exact fun vs us hv hu=>akj vs us (au hs hv) (au hs hu)
 ·have h1:=thm7.1 sR (t,i) h
  simp only[he,Bool.not_true,Bool.false_or,Bool.or_eq_true,thm0] at h1
  rcases h1 with((h1 | h1) | h1) | h1
  ·have hs:=h1.2
   obtain rfl:=thm1 h1.1
   exact kP
  ·have hs:=h1.2
   obtain rfl:=thm1 h1.1
   exact lz
  ·have hs:=h1.2
   obtain rfl:=thm1 h1.1
   exact ly
  ·have hs:=h1.2
   obtain rfl:=thm1 h1.1
   exact af3
 ·have h1:=thm7.1 ab3 (t,i) h
  simp[he] at h1
def o6 (p:Prog):List Dt:=[.z (b2i true)]
def kz:List Dt->List Dt
 | [.z x0,.l x1]=>o6 ⟨x0,x1⟩
 | _=>[]
def sT_lvfirst:Tr:=
(.call 0 [.bool] (.cons (.var 0) (.consl (.lvar 1) .nil)) 2
(.br (.bvar 2)
(.call 1 [.bool] .nil 3
(.leaf (.consb (.bvar 3) .nil)))
(.call 2 [.int .i64,.int .i64] (.cons (.var 0) (.consl (.lvar 1) .nil)) 3
(.br (.eq (.var 4) (.lit 0))
(.call 3 ([.sl [none] 4,.sl (kN 171 221122110221122110221122110221122110221122110221122110221122110221122110221122110221122110221122110221122110221122110221122110221122110221122110221122110221122110221122110) 54]++[.int .i64]++[.int .i64]) (.cons (.var 0) (.consl (.lvar 1) .nil)) 5
(.br (.lt (.lit 0) (.len (.lvar 1)))
(.call 4 [.int .i64] (.ins (.lvar 1) (.lit 0) .nil) 9
(.br (.eq (.bin .andNot .i64 (.var 9) (.lit 1026)) (.lit 0))
(.br (.lt (.var 7) (.lit 0))
(.leaf (.consb (.tt false) .nil))
(.br (.lt (.var 7) (.len (.lvar 1)))
(.call 1 [.bool] .nil 10
(.leaf (.consb (.bvar 10) .nil)))
(.leaf (.consb (.tt false) .nil))))
(.br (.eq (.var 8) (.lit 110))
(.br (.eq (.var 7) (.lit 0))
(.br (.lt (.var 7) (.lit 0))
(.leaf (.consb (.tt false) .nil))
(.br (.lt (.var 7) (.len (.lvar 1)))
(.call 1 [.bool] .nil 10
(.leaf (.consb (.bvar 10) .nil)))
(.leaf (.consb (.tt false) .nil))))
(.leaf (.consb (.tt false) .nil)))
(.leaf (.consb (.tt false) .nil)))))
.panic))
(.call 1 [.bool] .nil 5
(.leaf (.consb (.bvar 5) .nil)))))))
def o9:Spec:={F:=fun k=>match k with | 0=>fU | 1=>rE | 2=>eK | 3=>nr | 4=>lk | _=>fun _=>[],pre:=fun k=>match k with | 0=>eC | 2=>dC | 3=>kq | _=>fun _=>True,hw:=sHw,hx:=sHx,hi:=sHi}
theorem aaP:aq tys_VzG [nc 0,wx 1,jf 2,qQ 3,zd 4] [] [] [] 200 Tryz.f3 [.agg lH] [.one .bool] false [.int .i64,.list (kN 9 220090000)] sT_lvfirst:=⟨by kernel_rfl,by kernel_rfl,by kernel_rfl⟩
set_option linter.defProp false in
def dr:=And.intro Prog.eta (Ins.eta)
theorem aaM (p:Prog) (hp:Prog.ok p) (U:Env) (g:ab U 0 [.int .i64,.list (kN 9 220090000)]=[.z p.ctx,.l p.l]):sT_lvfirst.asks o9 (fun U e=>e.D U=kz [.z p.ctx,.l p.l]) U fun _ _=>False:=by
 simp only[ab,varD,thm5,Dt.z.injEq,Dt.l.injEq,b2i_eq_iff,Nat.reduceAdd,and_true] at g
 simp only[sT_lvfirst,o9,fU,rE,eK,nr,lk,mF,mI,adt,adu,kz,o6,eC,dC,kq,Tr.asks,ah,okDs,okD,eqs,E.I,E.B,E.L,E.R,E.D,E.vs,E.gs,E.ins,E.sv,E.tn,E.iv,E.zs,E.zr,E.sg,E.tg,E.rg,E.rgs,E.pv,Nat.reduceSub,dI,dB,dL,varD,ab,S1,Nat.reduceAdd,-eq_self,ao,dr,ae,af,g]
 refine⟨?_,?_⟩
 ·exact hp.2.len
 intro e; (try simp only[e,ao,dr,ae,af,-eq_self]); clear e
 constructor<;>intro c0
 intro e; (try simp only[e,ao,dr,ae,af,-eq_self]); clear e
 ·rfl
 refine⟨?_,?_⟩
 ·exact hp.2.len
 intro e; (try simp only[e,ao,dr,ae,af,-eq_self]); clear e
 constructor<;>intro c1
 refine⟨?_,?_⟩
 ·exact hp.2.len
 intro e; (try simp only[e,ao,dr,ae,af,-eq_self]); clear e
 constructor<;>intro c2
 intro e; (try simp only[e,ao,dr,ae,af,-eq_self]); clear e
 constructor<;>intro c3
 constructor<;>intro c4
 ·exact absurd (vJ hp.2.len (eqI c1)).1 (by have:=thm3 c4; omega)
 constructor<;>intro c5
 intro e; (try simp only[e,ao,dr,ae,af,-eq_self]); clear e
 ·rfl
 ·exact absurd (vJ hp.2.len (eqI c1)).2 (by have:=thm2 c5; omega)
 constructor<;>intro c6
 constructor<;>intro c7
 constructor<;>intro c8
 ·rw[ki hp.2.len (eqI c1) (neI c3)] at c8; exact absurd c8 (by decide)
 constructor<;>intro c9
 intro e; (try simp only[e,ao,dr,ae,af,-eq_self]); clear e
 ·rfl
 ·exact absurd (vJ hp.2.len (eqI c1)).2 (by have:=thm2 c9; omega)
 ·rw[ki hp.2.len (eqI c1) (neI c3)] at c7; exact absurd c7 (by decide)
 ·rw[ki hp.2.len (eqI c1) (neI c3)] at c6; exact absurd c6 (by decide)
 ·(have:=(da hp.2.len (eqI c1)).1.2.1; have:=thm2 c2; omega)
 intro e; (try simp only[e,ao,dr,ae,af,-eq_self]); clear e
 ·rfl
theorem aaT (xs:List Dt) (vals:List Value) (w:World) (hw:ko w [.agg lH] xs vals) (hh:sHw w):Calls Tryz.prog 3 vals.toArray w fun e w'=>∃v,e=.returned v/\RetOk [.one .bool] false w w' (kz xs) v:=
 (ve (by kernel_rfl) abV (smc (ae1 rfl rfl) (smc (amf rfl) (smc (ur rfl rfl) (smc (aeJ rfl rfl) (smc (ajR rfl) sm0))))) Tryz.func3 fn0 aaP (pre:=fun _=>True) (fun x0 gx0 x1 gx1 hp U g=>aaM ⟨x0,x1⟩ ⟨gx0,gx1⟩ U g) xs vals w hw trivial hh).2
theorem oh {H:Type} {enc:TypeId×Value->H} {W:World} {r:Reach} {b0:Nat} (v0:Value) (k0:Value.okWide Tryz.prog W r b0 24 v0) (d0:DataW H) (p0:List MemPlace) (h0:DataW.Trod enc Tryz.prog W 0 (fun _=>true) true 24 v0 d0 p0) (_:∀x∈p0,x.block<W.heap.size) (hh:sHw W):
  Calls Tryz.prog 3 #[v0] W fun e W'=>e=.returned (.bool true)/\Below W.heap.size W W':=by
 obtain⟨a0,q0,s0,rfl,w0,n0,m0,o0,l0⟩:=Prog.of_arg k0 h0
 refine(aaT (.z a0::(.l q0::([]))) _ W ⟨_,_,_,rfl,⟨_,_,_,rfl,⟨_,rfl,rfl,w0⟩,⟨_,_,_,rfl,⟨_,_,rfl,rfl,n0,m0,o0,l0⟩,⟨rfl,rfl⟩⟩⟩,⟨rfl,rfl⟩⟩ hh).mono fun e W' ⟨v,he,hr⟩=> ?_
 have hv:v=.bool true:=RetOk.says hr
 rw[he,hv]
 exact⟨rfl,hr.ext⟩
end Go.Proofs.YtfkhblmeioiciaaGreatDoor
