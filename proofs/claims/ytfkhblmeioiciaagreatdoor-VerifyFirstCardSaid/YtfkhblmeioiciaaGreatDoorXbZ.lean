import Derived.Test.YtfkhblmeioiciaaGreatDoorXbL
import Derived.Test.YtfkhblmeioiciaaGreatDoorKxZ
import Derived.Test.YtfkhblmeioiciaaGreatDoorProg
import Derived.Laws.Externs
set_option maxRecDepth 100000
set_option maxHeartbeats 8000000
set_option linter.unusedVariables false
set_option linter.unusedSimpArgs false
namespace Go.Proofs.YtfkhblmeioiciaaGreatDoor
open Go.RowKit Go.ChangeShapes Go.WideShapes
def okop (op l:Int):Bool:=(decide (0<=op)&&decide (op<=12))&&mg l
theorem pV {x:Int} (h:0<=x/\x<=18446744073709551615):inK .u64 x=true:=by
 rw[bo]; simpa[IntKind.min,IntKind.max,IntKind.signed,IntKind.bits] using h
theorem af1 {x:Int} (h : -9223372036854775808<=x/\x<=9223372036854775807):inK .i64 x=true:=by
 rw[bo]; simpa[IntKind.min,IntKind.max,IntKind.signed,IntKind.bits] using h
def tys_XbC:List (Nat×TI):=[(2,⟨false,1,[.int .i64 (.lit 0)],[],none,some .i64,false,false,none,8,false,none,false,0⟩),
 (42,⟨false,1,[.int .u64 (.lit 0)],[],none,some .u64,false,false,none,8,false,none,false,0⟩),
 (44,⟨true,4,(zN 4 2211),[(0,42),(1,42),(2,2),(3,2)],none,none,false,false,none,32,false,none,false,0⟩)]
theorem ack:(tys_XbC.all fun p=>ckTI Tryz.prog p.1 p.2)=true:=by kernel_rfl
theorem sN:(tys_XbC.all fun p=>!p.2.eqok)=true:=by kernel_rfl
theorem abZ:(tys_XbC.all fun p=>!p.2.keyok)=true:=by kernel_rfl
theorem abU:∀t i,(t,i)∈tys_XbC->TIok Tryz.prog t i:=by
 intro t i h
 refine bC (cz (f:=ckTI Tryz.prog) ack h) (fun he=> ?_) (fun he=> ?_) (fun he=> ?_)
 ·have h1:=thm7.1 sN (t,i) h
  simp[he] at h1
 ·have h1:=thm7.1 sN (t,i) h
  simp[he] at h1
 ·have h1:=thm7.1 abZ (t,i) h
  simp[he] at h1
def jh (key:Nat):Sm:=⟨242,key,[.one (.int .u64),.one (.int .u64),.one (.lit .u64 0)],[.one (.int .u64),.one (.int .u64)],true⟩
def je (x:Int) (y:Int):List Dt:=[.z ((x+y) % 18446744073709551616),.z ((x+y) / 18446744073709551616)]
def gH:List Dt->List Dt
 | [.z x0,.z x1]=>je x0 x1
 | _=>[]
theorem ahO (x:Int) (hx:inK .u64 x=true) (y:Int) (hy:inK .u64 y=true):(∀w,(callFunc 242 #[.int .u64 x,.int .u64 y,.int .u64 0]).run Tryz.prog w=.ok (.value (.tuple #[.int .u64 ((x+y) % 18446744073709551616),.int .u64 ((x+y) / 18446744073709551616)])) w)/\io (.tuple #[.int .u64 ((x+y) % 18446744073709551616),.int .u64 ((x+y) / 18446744073709551616)])=true:=by
 have gx:=cv hx
 have gy:=cv hy
 refine⟨fun w=> ?_,?_⟩
 ·rw[run_callFunc_extern Tryz.func242 (by kernel_rfl) (by kernel_rfl) (by kernel_rfl) (e:=add64Entry) (by kernel_rfl),run_add64 x y 0 gx.1 gy.1 (by omega) (by omega)]
  simp only[Result.andThen,Int.add_zero]
 ·have h1:inK .u64 ((x+y) % 18446744073709551616)=true:=pV (by omega)
  have h2:inK .u64 ((x+y) / 18446744073709551616)=true:=pV (by omega)
  simp[io,gi,gz,h1,h2]
theorem aiD {sp:Spec} {key:Nat} (hF:sp.F key=gH):SmOk Tryz.prog sp (jh key):=by
 refine SmOk.pure hF rfl rfl fun xs vals w h=> ?_
 obtain⟨_,_,_,rfl,⟨x0,rfl,rfl,gx0⟩,h⟩:=h
 obtain⟨_,_,_,rfl,⟨x1,rfl,rfl,gx1⟩,h⟩:=h
 obtain⟨_,_,_,rfl,⟨rfl,rfl⟩,h⟩:=h
 obtain⟨rfl,rfl⟩:=h
 have q:=ahO x0 gx0 x1 gx1
 refine⟨_,.inl (q.1 w),?_,fun U v0 nid j he=> ?_⟩
 ·have q2:=q.2
  simp[io,gi,gz] at q2
  simp[jh,gH,je,List.flatMap_cons,List.flatMap_nil,Sh.cks,List.append_nil,List.cons_append,List.nil_append,b2i_one,eO,q2]
 ·simp only[jh,gH,je,List.flatMap_cons,List.flatMap_nil,Sh.cks,List.append_nil,List.cons_append,List.nil_append,b2i_one,eqs,dI,dB,bJ,lE,Nat.zero_add,Nat.add_zero,Nat.reduceAdd,and_true] at he
  simp[jh,gH,je,List.flatMap_cons,List.flatMap_nil,Sh.cks,List.append_nil,List.cons_append,List.nil_append,b2i_one,eN,bk,aE,V.den,C.den,denL,den0,bq,E.I,E.B,he]
def uo (key:Nat):Sm:=⟨222,key,[.one (.int .u64)],[.one (.int .i64)],false⟩
def tU (x:Int):List Dt:=[.z ((aC x.toNat:Int))]
def pg:List Dt->List Dt
 | [.z x0]=>tU x0
 | _=>[]
theorem aoc (x:Int) (hx:inK .u64 x=true):(∀w,Calls Tryz.prog 222 #[.int .u64 x] w fun e w'=>e=.returned (.int .i64 ((aC x.toNat:Int)))/\Ext w w')/\io (.int .i64 ((aC x.toNat:Int)))=true:=by
 have g:=cv hx
 have hb:aC x.toNat<=64:=eu (by omega)
 have h:inK .i64 (aC x.toNat:Int)=true:=af1 (by omega)
 exact⟨fun w=>apU x g.1 g.2 w w (Ext.refl w),h⟩
theorem aoP {sp:Spec} {key:Nat} (hF:sp.F key=pg):SmOk Tryz.prog sp (uo key):=by
 refine SmOk.pure hF rfl rfl fun xs vals w h=> ?_
 obtain⟨_,_,_,rfl,⟨x0,rfl,rfl,gx0⟩,h⟩:=h
 obtain⟨rfl,rfl⟩:=h
 have q:=aoc x0 gx0
 refine⟨_,.inr ⟨cX Tryz.func222 (by kernel_rfl) (by kernel_rfl) _ w,q.1 w⟩,?_,fun U v0 nid j he=> ?_⟩
 ·have q2:=q.2
  simp[io,gi,gz] at q2
  simp[uo,pg,tU,List.flatMap_cons,List.flatMap_nil,Sh.cks,List.append_nil,List.cons_append,List.nil_append,b2i_one,eO,q2]
 ·simp only[uo,pg,tU,List.flatMap_cons,List.flatMap_nil,Sh.cks,List.append_nil,List.cons_append,List.nil_append,b2i_one,eqs,dI,dB,bJ,lE,Nat.zero_add,Nat.add_zero,Nat.reduceAdd,and_true] at he
  simp[uo,pg,tU,List.flatMap_cons,List.flatMap_nil,Sh.cks,List.append_nil,List.cons_append,List.nil_append,b2i_one,eN,bk,aE,V.den,C.den,denL,den0,bq,E.I,E.B,he]
def aaQ (key:Nat):Sm:=⟨224,key,[.one (.int .u64)],[.one (.int .i64)],false⟩
def aaN (x:Int):List Dt:=[.z (64-(aC x.toNat:Int))]
def uy:List Dt->List Dt
 | [.z x0]=>aaN x0
 | _=>[]
theorem aqm (x:Int) (hx:inK .u64 x=true):(∀w,Calls Tryz.prog 224 #[.int .u64 x] w fun e w'=>e=.returned (.int .i64 (64-(aC x.toNat:Int)))/\Ext w w')/\io (.int .i64 (64-(aC x.toNat:Int)))=true:=by
 have g:=cv hx
 have hb:aC x.toNat<=64:=eu (by omega)
 have h:inK .i64 (64-(aC x.toNat:Int))=true:=af1 (by omega)
 exact⟨fun w=>b_lz x g.1 g.2 w w (Ext.refl w),h⟩
theorem aoO {sp:Spec} {key:Nat} (hF:sp.F key=uy):SmOk Tryz.prog sp (aaQ key):=by
 refine SmOk.pure hF rfl rfl fun xs vals w h=> ?_
 obtain⟨_,_,_,rfl,⟨x0,rfl,rfl,gx0⟩,h⟩:=h
 obtain⟨rfl,rfl⟩:=h
 have q:=aqm x0 gx0
 refine⟨_,.inr ⟨cX Tryz.func224 (by kernel_rfl) (by kernel_rfl) _ w,q.1 w⟩,?_,fun U v0 nid j he=> ?_⟩
 ·have q2:=q.2
  simp[io,gi,gz] at q2
  simp[aaQ,uy,aaN,List.flatMap_cons,List.flatMap_nil,Sh.cks,List.append_nil,List.cons_append,List.nil_append,b2i_one,eO,q2]
 ·simp only[aaQ,uy,aaN,List.flatMap_cons,List.flatMap_nil,Sh.cks,List.append_nil,List.cons_append,List.nil_append,b2i_one,eqs,dI,dB,bJ,lE,Nat.zero_add,Nat.add_zero,Nat.reduceAdd,and_true] at he
  simp[aaQ,uy,aaN,List.flatMap_cons,List.flatMap_nil,Sh.cks,List.append_nil,List.cons_append,List.nil_append,b2i_one,eN,bk,aE,V.den,C.den,denL,den0,bq,E.I,E.B,he]
def aeC (key:Nat):Sm:=⟨223,key,[.agg kRg,.agg kRg,.one .bool],[.agg kRg],false⟩
def adB (a:Rg) (b:Rg) (t:Bool):List Dt:=[.z ((xsum t a b).ul),.z ((xsum t a b).uh),.z ((xsum t a b).sl),.z ((xsum t a b).sh)]
def uw:List Dt->List Dt
 | [.z x0,.z x1,.z x2,.z x3,.z x4,.z x5,.z x6,.z x7,.z x8]=>adB ⟨x0,x1,x2,x3⟩ ⟨x4,x5,x6,x7⟩ (x8==1)
 | _=>[]
def sT_sum:Tr:=
(.call 0 (kRg) .nil 9
(.br (.bvar 8)
(.br (.lt (.var 0) (.var 5))
(.call 3 [.int .i64,.bool] (.cons (.var 2) (.cons (.var 7) .nil)) 13
(.call 3 [.int .i64,.bool] (.cons (.var 3) (.cons (.var 6) .nil)) 15
(.br (.bvar 14)
(.br (.bvar 16)
(.leaf (.vs 9 2 (.cons (.var 13) (.cons (.var 15) .nil))))
(.leaf (.vs 9 4 .nil)))
(.leaf (.vs 9 4 .nil)))))
(.call 3 [.int .i64,.bool] (.cons (.var 2) (.cons (.var 7) .nil)) 13
(.call 3 [.int .i64,.bool] (.cons (.var 3) (.cons (.var 6) .nil)) 15
(.br (.bvar 14)
(.br (.bvar 16)
(.leaf (.cons (.bin .sub .u64 (.var 0) (.var 5)) (.cons (.bin .sub .u64 (.var 1) (.var 4)) (.cons (.var 13) (.cons (.var 15) .nil)))))
(.leaf (.cons (.bin .sub .u64 (.var 0) (.var 5)) (.cons (.bin .sub .u64 (.var 1) (.var 4)) (.vs 11 2 .nil)))))
(.leaf (.cons (.bin .sub .u64 (.var 0) (.var 5)) (.cons (.bin .sub .u64 (.var 1) (.var 4)) (.vs 11 2 .nil))))))))
(.call 1 [.int .u64,.int .u64] (.cons (.var 1) (.cons (.var 5) .nil)) 13
(.br (.eq (.var 14) (.lit 0))
(.call 2 [.int .i64,.bool] (.cons (.var 2) (.cons (.var 6) .nil)) 15
(.call 2 [.int .i64,.bool] (.cons (.var 3) (.cons (.var 7) .nil)) 17
(.br (.bvar 16)
(.br (.bvar 18)
(.leaf (.cons (.bin .add .u64 (.var 0) (.var 4)) (.cons (.var 13) (.cons (.var 15) (.cons (.var 17) .nil)))))
(.leaf (.cons (.bin .add .u64 (.var 0) (.var 4)) (.cons (.var 13) (.vs 11 2 .nil)))))
(.leaf (.cons (.bin .add .u64 (.var 0) (.var 4)) (.cons (.var 13) (.vs 11 2 .nil)))))))
(.call 2 [.int .i64,.bool] (.cons (.var 2) (.cons (.var 6) .nil)) 15
(.call 2 [.int .i64,.bool] (.cons (.var 3) (.cons (.var 7) .nil)) 17
(.br (.bvar 16)
(.br (.bvar 18)
(.leaf (.vs 9 2 (.cons (.var 15) (.cons (.var 17) .nil))))
(.leaf (.vs 9 4 .nil)))
(.leaf (.vs 9 4 .nil)))))))))
def ajD:Spec:={F:=fun k=>match k with | 0=>bv | 1=>gH | 2=>nD | 3=>jx | _=>fun _=>[],pre:=fun k=>match k with | _=>fun _=>True}
theorem aos:aq tys_XbC [dD 0,jh 1,wM 2,rn 3] [] [] [] 200 Tryz.f223 [.agg kRg,.agg kRg,.one .bool] [.agg kRg] false [.int .u64,.int .u64,.int .i64,.int .i64,.int .u64,.int .u64,.int .i64,.int .i64,.bool] sT_sum:=⟨by kernel_rfl,by kernel_rfl,by kernel_rfl⟩
set_option linter.defProp false in
def aj:=And.intro Pi.eta (And.intro Pu.eta (Rg.eta))
theorem an6 (a:Rg) (ha:Rg.ok a) (b:Rg) (hb:Rg.ok b) (t:Bool) (U:Env) (g:ab U 0 [.int .u64,.int .u64,.int .i64,.int .i64,.int .u64,.int .u64,.int .i64,.int .i64,.bool]=[.z a.ul,.z a.uh,.z a.sl,.z a.sh,.z b.ul,.z b.uh,.z b.sl,.z b.sh,.z (b2i t)]):sT_sum.asks ajD (fun U e=>e.D U=uw [.z a.ul,.z a.uh,.z a.sl,.z a.sh,.z b.ul,.z b.uh,.z b.sl,.z b.sh,.z (b2i t)]) U fun _ _=>False:=by
 simp only[ab,varD,thm5,Dt.z.injEq,Dt.l.injEq,b2i_eq_iff,Nat.reduceAdd,and_true] at g
 simp only[sT_sum,ajD,kRg,bv,gH,nD,jx,je,wh,qE,uw,adB,Tr.asks,ah,okDs,okD,eqs,E.I,E.B,E.L,E.R,E.D,E.vs,E.gs,E.ins,E.sv,E.tn,E.iv,E.zs,E.zr,E.sg,E.tg,E.rg,E.rgs,E.pv,Nat.reduceSub,dI,dB,dL,varD,ab,S1,Nat.reduceAdd,-eq_self,aj,g]
 intro e; (try simp only[e,aj,-eq_self]); clear e
 constructor<;>intro c0
 constructor<;>intro c1
 intro e; (try simp only[e,aj,-eq_self]); clear e
 intro e; (try simp only[e,aj,-eq_self]); clear e
 constructor<;>intro c2
 constructor<;>intro c3
 ·(subst c0; exact agg4 (pH c1).1 (pH c1).2 (aam c2 c3).1 (aam c2 c3).2)
 ·(subst c0; exact agg4 (pH c1).1 (pH c1).2 (lC (.inr c3)).1 (lC (.inr c3)).2)
 ·(subst c0; exact agg4 (pH c1).1 (pH c1).2 (lC (.inl c2)).1 (lC (.inl c2)).2)
 intro e; (try simp only[e,aj,-eq_self]); clear e
 intro e; (try simp only[e,aj,-eq_self]); clear e
 constructor<;>intro c4
 constructor<;>intro c5
 ·(subst c0; exact agg4 (pG c1).1 (pG c1).2 (aam c4 c5).1 (aam c4 c5).2)
 ·(subst c0; exact agg4 (pG c1).1 (pG c1).2 (lC (.inr c5)).1 (lC (.inr c5)).2)
 ·(subst c0; exact agg4 (pG c1).1 (pG c1).2 (lC (.inl c4)).1 (lC (.inl c4)).2)
 intro e; (try simp only[e,aj,-eq_self]); clear e
 constructor<;>intro c6
 intro e; (try simp only[e,aj,-eq_self]); clear e
 intro e; (try simp only[e,aj,-eq_self]); clear e
 constructor<;>intro c7
 constructor<;>intro c8
 ·(subst c0; exact agg4 (oV ha hb c6).1 (oV ha hb c6).2 (ye c7 c8).1 (ye c7 c8).2)
 ·(subst c0; exact agg4 (oV ha hb c6).1 (oV ha hb c6).2 (lb (.inr c8)).1 (lb (.inr c8)).2)
 ·(subst c0; exact agg4 (oV ha hb c6).1 (oV ha hb c6).2 (lb (.inl c7)).1 (lb (.inl c7)).2)
 intro e; (try simp only[e,aj,-eq_self]); clear e
 intro e; (try simp only[e,aj,-eq_self]); clear e
 constructor<;>intro c9
 constructor<;>intro c10
 ·(subst c0; exact agg4 (oW ha hb c6).1 (oW ha hb c6).2 (ye c9 c10).1 (ye c9 c10).2)
 ·(subst c0; exact agg4 (oW ha hb c6).1 (oW ha hb c6).2 (lb (.inr c10)).1 (lb (.inr c10)).2)
 ·(subst c0; exact agg4 (oW ha hb c6).1 (oW ha hb c6).2 (lb (.inl c9)).1 (lb (.inl c9)).2)
theorem aoM {sp:Spec} {key:Nat} (hF:sp.F key=uw) (hP:sp.pre key=fun _=>True:=by rfl):SmOk Tryz.prog sp (aeC key):=
 av (s:=aeC key) hF hP (by kernel_rfl) abU (smc (eD rfl) (smc (aiD rfl) (smc (amr rfl) (smc (aiw rfl) sm0)))) Tryz.func223 fn0 aos (.inl rfl) (fun x0 gx0 x1 gx1 x2 gx2 x3 gx3 x4 gx4 x5 gx5 x6 gx6 x7 gx7 x8 hp U g=>an6 ⟨x0,x1,x2,x3⟩ ⟨gx0,gx1,gx2,gx3⟩ ⟨x4,x5,x6,x7⟩ ⟨gx4,gx5,gx6,gx7⟩ x8 U g)
def tys_XbD:List (Nat×TI):=[(2,⟨false,1,[.int .i64 (.lit 0)],[],none,some .i64,false,false,none,8,false,none,false,0⟩),
 (3,⟨false,1,[.int .i64 (.lit 0)],[],none,some .i64,false,false,none,8,false,none,false,0⟩),
 (37,⟨false,1,[.int .i8 (.lit 0)],[],none,some .i8,false,false,none,1,false,none,false,0⟩),
 (42,⟨false,1,[.int .u64 (.lit 0)],[],none,some .u64,false,false,none,8,false,none,false,0⟩),
 (44,⟨true,4,(zN 4 2211),[(0,42),(1,42),(2,2),(3,2)],none,none,false,false,none,32,false,none,false,0⟩),
 (105,⟨false,1,[.int .u64 (.lit 0)],[],none,some .u64,false,false,none,8,false,none,false,0⟩)]
theorem acj:(tys_XbD.all fun p=>ckTI Tryz.prog p.1 p.2)=true:=by kernel_rfl
theorem sM:(tys_XbD.all fun p=>!p.2.eqok)=true:=by kernel_rfl
theorem abY:(tys_XbD.all fun p=>!p.2.keyok)=true:=by kernel_rfl
theorem abT:∀t i,(t,i)∈tys_XbD->TIok Tryz.prog t i:=by
 intro t i h
 refine bC (cz (f:=ckTI Tryz.prog) acj h) (fun he=> ?_) (fun he=> ?_) (fun he=> ?_)
 ·have h1:=thm7.1 sM (t,i) h
  simp[he] at h1
 ·have h1:=thm7.1 sM (t,i) h
  simp[he] at h1
 ·have h1:=thm7.1 abY (t,i) h
  simp[he] at h1
def aih (key:Nat):Sm:=⟨188,key,[.one (.int .i8),.agg kRg,.agg kRg],[.agg kRg],false⟩
def ahP (op:Int) (a:Rg) (b:Rg):List Dt:=[.z ((bdo op a b).ul),.z ((bdo op a b).uh),.z ((bdo op a b).sl),.z ((bdo op a b).sh)]
def wZ:List Dt->List Dt
 | [.z x0,.z x1,.z x2,.z x3,.z x4,.z x5,.z x6,.z x7,.z x8]=>ahP x0 ⟨x1,x2,x3,x4⟩ ⟨x5,x6,x7,x8⟩
 | _=>[]
def sT_do:Tr:=
(.call 0 [.bool] (.vs 1 4 .nil) 9
(.br (.bvar 9)
(.call 0 [.bool] (.vs 5 4 .nil) 10
(.br (.bvar 10)
(.call 1 (kRg) .nil 11
(.call 2 [.int .u64,.bool] (.vs 5 4 .nil) 15
(.call 3 [.int .i64] (.cons (.mx (.var 2) (.var 6)) .nil) 17
(.br (.lt (.var 17) (.lit 0))
.panic
(.br (.eq (.var 0) (.lit 11))
(.call 6 (kRg) (.vs 5 4 .nil) 18
(.leaf (.vs 18 4 .nil)))
(.br (.eq (.var 0) (.lit 0))
(.call 5 (kRg) (.vs 1 8 (.consb (.eq (.var 0) (.lit 1)) .nil)) 18
(.call 6 (kRg) (.vs 18 4 .nil) 22
(.leaf (.vs 22 4 .nil))))
(.br (.eq (.var 0) (.lit 1))
(.call 5 (kRg) (.vs 1 8 (.consb (.eq (.var 0) (.lit 1)) .nil)) 18
(.call 6 (kRg) (.vs 18 4 .nil) 22
(.leaf (.vs 22 4 .nil))))
(.br (.eq (.var 0) (.lit 5))
(.call 6 (kRg) (.cons (.var 11) (.cons (.mn (.var 2) (.var 6)) (.vs 13 2 .nil))) 18
(.leaf (.vs 18 4 .nil)))
(.br (.eq (.var 0) (.lit 4))
(.call 6 (kRg) (.cons (.mx (.var 1) (.var 5)) (.cons (.bin .sub .u64 (.bin .shl .u64 (.lit 1) (.var 17)) (.lit 1)) (.vs 13 2 .nil))) 18
(.leaf (.vs 18 4 .nil)))
(.br (.eq (.var 0) (.lit 10))
(.call 6 (kRg) (.cons (.var 11) (.cons (.bin .sub .u64 (.bin .shl .u64 (.lit 1) (.var 17)) (.lit 1)) (.vs 13 2 .nil))) 18
(.leaf (.vs 18 4 .nil)))
(.br (.eq (.var 0) (.lit 3))
(.br (.lt (.lit 0) (.var 5))
(.br (.eq (.var 6) (.lit 0))
.panic
(.br (.eq (.var 5) (.lit 0))
.panic
(.call 6 (kRg) (.cons (.bin .quo .u64 (.var 1) (.var 6)) (.cons (.bin .quo .u64 (.var 2) (.var 5)) (.vs 13 2 .nil))) 18
(.leaf (.vs 18 4 .nil)))))
(.call 6 (kRg) (.cons (.var 11) (.cons (.var 2) (.vs 13 2 .nil))) 18
(.leaf (.vs 18 4 .nil))))
(.br (.eq (.var 0) (.lit 9))
(.br (.lt (.lit 0) (.var 5))
(.call 6 (kRg) (.cons (.var 11) (.cons (.mn (.var 2) (.bin .sub .u64 (.var 6) (.lit 1))) (.vs 13 2 .nil))) 18
(.leaf (.vs 18 4 .nil)))
(.call 6 (kRg) (.cons (.var 11) (.cons (.var 2) (.vs 13 2 .nil))) 18
(.leaf (.vs 18 4 .nil))))
(.br (.eq (.var 0) (.lit 7))
(.br (.bvar 16)
(.call 6 (kRg) (.cons (.bin .shr .u64 (.var 1) (.bin .and .u64 (.var 15) (.lit 63))) (.cons (.bin .shr .u64 (.var 2) (.bin .and .u64 (.var 15) (.lit 63))) (.vs 13 2 .nil))) 18
(.leaf (.vs 18 4 .nil)))
(.call 6 (kRg) (.vs 11 4 .nil) 18
(.leaf (.vs 18 4 .nil))))
(.br (.eq (.var 0) (.lit 6))
(.br (.bvar 16)
(.call 4 [.int .i64] (.cons (.var 2) .nil) 18
(.br (.lt (.var 18) (.conv .i64 (.bin .and .u64 (.var 15) (.lit 63))))
(.call 6 (kRg) (.vs 11 4 .nil) 19
(.leaf (.vs 19 4 .nil)))
(.call 6 (kRg) (.cons (.bin .shl .u64 (.var 1) (.bin .and .u64 (.var 15) (.lit 63))) (.cons (.bin .shl .u64 (.var 2) (.bin .and .u64 (.var 15) (.lit 63))) (.vs 13 2 .nil))) 19
(.leaf (.vs 19 4 .nil)))))
(.call 6 (kRg) (.vs 11 4 .nil) 18
(.leaf (.vs 18 4 .nil))))
(.call 6 (kRg) (.vs 11 4 .nil) 18
(.leaf (.vs 18 4 .nil)))))))))))))))))
(.call 1 (kRg) .nil 11
(.leaf (.vs 11 4 .nil)))))
(.call 1 (kRg) .nil 10
(.leaf (.vs 10 4 .nil)))))
def aoI:Spec:={F:=fun k=>match k with | 0=>cE | 1=>bv | 2=>cD | 3=>pg | 4=>uy | 5=>uw | 6=>iD | _=>fun _=>[],pre:=fun k=>match k with | _=>fun _=>True}
theorem aqq:aq tys_XbD [gZ 0,dD 1,fN 2,uo 3,aaQ 4,aeC 5,rm 6] [] [] [] 200 Tryz.f188 [.one (.int .i8),.agg kRg,.agg kRg] [.agg kRg] false [.int .i8,.int .u64,.int .u64,.int .i64,.int .i64,.int .u64,.int .u64,.int .i64,.int .i64] sT_do:=⟨by kernel_rfl,by kernel_rfl,by kernel_rfl⟩
theorem aqn (op:Int) (hop:inK .i8 op=true) (a:Rg) (ha:Rg.ok a) (b:Rg) (hb:Rg.ok b) (U:Env) (g:ab U 0 [.int .i8,.int .u64,.int .u64,.int .i64,.int .i64,.int .u64,.int .u64,.int .i64,.int .i64]=[.z op,.z a.ul,.z a.uh,.z a.sl,.z a.sh,.z b.ul,.z b.uh,.z b.sl,.z b.sh]):sT_do.asks aoI (fun U e=>e.D U=wZ [.z op,.z a.ul,.z a.uh,.z a.sl,.z a.sh,.z b.ul,.z b.uh,.z b.sl,.z b.sh]) U fun _ _=>False:=by
 simp only[ab,varD,thm5,Dt.z.injEq,Dt.l.injEq,b2i_eq_iff,Nat.reduceAdd,and_true] at g
 simp only[sT_do,aoI,kRg,cE,bv,cD,pg,uy,uw,iD,gY,fL,tU,aaN,adB,qD,wZ,ahP,Tr.asks,ah,okDs,okD,eqs,E.I,E.B,E.L,E.R,E.D,E.vs,E.gs,E.ins,E.sv,E.tn,E.iv,E.zs,E.zr,E.sg,E.tg,E.rg,E.rgs,E.pv,Nat.reduceSub,dI,dB,dL,varD,ab,S1,Nat.reduceAdd,-eq_self,aj,g]
 intro e; (try simp only[e,aj,-eq_self]); clear e
 constructor<;>intro c0
 intro e; (try simp only[e,aj,-eq_self]); clear e
 constructor<;>intro c1
 intro e; (try simp only[e,aj,-eq_self]); clear e
 intro e; (try simp only[e,aj,-eq_self]); clear e
 intro e; (try simp only[e,aj,-eq_self]); clear e
 constructor<;>intro c2
 ·exact absurd (thm3 c2) (by omega)
 constructor<;>intro c3
 intro e; (try simp only[e,aj,-eq_self]); clear e
 ·exact cM (ara ha hb c0 c1 c3)
 constructor<;>intro c4
 intro e; (try simp only[e,aj,-eq_self]); clear e
 intro e; (try simp only[e,aj,-eq_self]); clear e
 ·exact cM (dq_0 ha hb c0 c1 c4)
 constructor<;>intro c5
 intro e; (try simp only[e,aj,-eq_self]); clear e
 intro e; (try simp only[e,aj,-eq_self]); clear e
 ·exact cM (dq_1 ha hb c0 c1 c5)
 constructor<;>intro c6
 intro e; (try simp only[e,aj,-eq_self]); clear e
 ·exact cM (dq_5 ha hb c0 c1 c6)
 constructor<;>intro c7
 intro e; (try simp only[e,aj,-eq_self]); clear e
 ·exact cM (dq_4 ha hb c0 c1 c7)
 constructor<;>intro c8
 intro e; (try simp only[e,aj,-eq_self]); clear e
 ·exact cM (arb ha hb c0 c1 c8)
 constructor<;>intro c9
 constructor<;>intro c10
 constructor<;>intro c11
 ·(have hm:=(ef b).1 c1; have h1:=thm3 c10; have h2:=eqz c11; omega)
 constructor<;>intro c12
 ·(have hm:=(ef b).1 c1; have h1:=thm3 c10; have h2:=eqz c12; omega)
 intro e; (try simp only[e,aj,-eq_self]); clear e
 ·exact cM (dq_3 ha hb c0 c1 c9 c10)
 intro e; (try simp only[e,aj,-eq_self]); clear e
 ·exact cM (aq9 ha hb c0 c1 c9 c10)
 constructor<;>intro c13
 constructor<;>intro c14
 intro e; (try simp only[e,aj,-eq_self]); clear e
 ·exact cM (dq_9 ha hb c0 c1 c13 c14)
 intro e; (try simp only[e,aj,-eq_self]); clear e
 ·exact cM (aq5 ha hb c0 c1 c13 c14)
 constructor<;>intro c15
 constructor<;>intro c16
 intro e; (try simp only[e,aj,-eq_self]); clear e
 ·exact cM (dq_7 ha hb c0 c1 c15 c16)
 intro e; (try simp only[e,aj,-eq_self]); clear e
 ·exact cM (aq6 ha hb c0 c1 c15 c16)
 constructor<;>intro c17
 constructor<;>intro c18
 intro e; (try simp only[e,aj,-eq_self]); clear e
 constructor<;>intro c19
 intro e; (try simp only[e,aj,-eq_self]); clear e
 ·exact cM (aq7 ha hb c0 c1 c17 c18 c19)
 intro e; (try simp only[e,aj,-eq_self]); clear e
 ·exact cM (dq_6 ha hb c0 c1 c17 c18 c19)
 intro e; (try simp only[e,aj,-eq_self]); clear e
 ·exact cM (aq8 ha hb c0 c1 c17 c18)
 intro e; (try simp only[e,aj,-eq_self]); clear e
 ·exact cM (dq_x ha hb c0 c1 c3 c4 c5 c6 c7 c8 c9 c13 c15 c17)
 intro e; (try simp only[e,aj,-eq_self]); clear e
 ·exact cM (akk (.inr c1))
 intro e; (try simp only[e,aj,-eq_self]); clear e
 ·exact cM (akk (.inl c0))
theorem aoV {sp:Spec} {key:Nat} (hF:sp.F key=wZ) (hP:sp.pre key=fun _=>True:=by rfl):SmOk Tryz.prog sp (aih key):=
 av (s:=aih key) hF hP (by kernel_rfl) abT (smc (lj rfl) (smc (eD rfl) (smc (nm rfl) (smc (aoP rfl) (smc (aoO rfl) (smc (aoM rfl) (smc (aeY rfl) sm0))))))) Tryz.func188 fn0 aqq (.inl rfl) (fun x0 gx0 x1 gx1 x2 gx2 x3 gx3 x4 gx4 x5 gx5 x6 gx6 x7 gx7 x8 gx8 hp U g=>aqn x0 gx0 ⟨x1,x2,x3,x4⟩ ⟨gx1,gx2,gx3,gx4⟩ ⟨x5,x6,x7,x8⟩ ⟨gx5,gx6,gx7,gx8⟩ U g)
set_option linter.unusedSectionVars false
open Go
section
variable {a b:Rg} (ha:a.ok) (hb:b.ok)
include ha hb
theorem aqO (h:(!(((2:Int)==2)&&(b.ul==18446744073709551615)))=false):bcan 2 a b=false:=by
 have h2:b.ul=18446744073709551615:=by simpa using h
 simp[bcan,h2]
theorem aqW (h:(!(((2:Int)==2)&&(b.ul==18446744073709551615)))=true):bcan 2 a b=true:=by
 have h2:b.ul≠18446744073709551615:=by simpa using h
 simp[bcan,h2]
theorem aqJ (h:(!(((2:Int)==2)&&(b.ul==18446744073709551615)))=true):(⟨if((2:Int)==2)=true/\(b.ul==18446744073709551615)=true then a.ul else max a.ul (if((2:Int)==2)=true then IntKind.u64.wrap (b.ul+1) else b.ul),a.uh,a.sl,a.sh⟩:Rg)=brng 2 a b:=by
 have h2:b.ul≠18446744073709551615:=by simpa using h
 have wa:=Rg.wf_of ha
 have wb:=Rg.wf_of hb
 obtain⟨⟨a0,a1⟩,⟨a2,a3⟩,⟨a4,a5⟩,a6,a7⟩:=wa
 obtain⟨⟨b0,b1⟩,⟨b2,b3⟩,⟨b4,b5⟩,b6,b7⟩:=wb
 have h3:IntKind.u64.wrap (b.ul+1)=b.ul+1:=by rw[bh]; omega
 simp[brng,Rg.ext_iff,h2,h3]
theorem aqV (h:(!(((3:Int)==2)&&(b.ul==18446744073709551615)))=true):bcan 3 a b=true:=by simp[bcan]
theorem aqI (h:(!(((3:Int)==2)&&(b.ul==18446744073709551615)))=true):(⟨if((3:Int)==2)=true/\(b.ul==18446744073709551615)=true then a.ul else max a.ul (if((3:Int)==2)=true then IntKind.u64.wrap (b.ul+1) else b.ul),a.uh,a.sl,a.sh⟩:Rg)=brng 3 a b:=by simp[brng,Rg.ext_iff]
theorem aqN (h:(!(((4:Int)==4)&&(b.uh==0)))=false):bcan 4 a b=false:=by
 have h2:b.uh=0:=by simpa using h
 simp[bcan,h2]
theorem aqU (h:(!(((4:Int)==4)&&(b.uh==0)))=true):bcan 4 a b=true:=by
 have h2:b.uh≠0:=by simpa using h
 simp[bcan,h2]
theorem aqH (h:(!(((4:Int)==4)&&(b.uh==0)))=true):(⟨a.ul,if((4:Int)==4)=true/\(b.uh==0)=true then a.uh else min a.uh (if((4:Int)==4)=true then IntKind.u64.wrap (b.uh-1) else b.uh),a.sl,a.sh⟩:Rg)=brng 4 a b:=by
 have h2:b.uh≠0:=by simpa using h
 have wa:=Rg.wf_of ha
 have wb:=Rg.wf_of hb
 obtain⟨⟨a0,a1⟩,⟨a2,a3⟩,⟨a4,a5⟩,a6,a7⟩:=wa
 obtain⟨⟨b0,b1⟩,⟨b2,b3⟩,⟨b4,b5⟩,b6,b7⟩:=wb
 have h3:IntKind.u64.wrap (b.uh-1)=b.uh-1:=by rw[bh]; omega
 simp[brng,Rg.ext_iff,h2,h3]
theorem aqT (h:(!(((5:Int)==4)&&(b.uh==0)))=true):bcan 5 a b=true:=by simp[bcan]
theorem aqG (h:(!(((5:Int)==4)&&(b.uh==0)))=true):(⟨a.ul,if((5:Int)==4)=true/\(b.uh==0)=true then a.uh else min a.uh (if((5:Int)==4)=true then IntKind.u64.wrap (b.uh-1) else b.uh),a.sl,a.sh⟩:Rg)=brng 5 a b:=by simp[brng,Rg.ext_iff]
theorem aqM (h:(!(((6:Int)==6)&&(b.sl==9223372036854775807)))=false):bcan 6 a b=false:=by
 have h2:b.sl=9223372036854775807:=by simpa using h
 simp[bcan,h2]
theorem aqS (h:(!(((6:Int)==6)&&(b.sl==9223372036854775807)))=true):bcan 6 a b=true:=by
 have h2:b.sl≠9223372036854775807:=by simpa using h
 simp[bcan,h2]
theorem aqF (h:(!(((6:Int)==6)&&(b.sl==9223372036854775807)))=true):(⟨a.ul,a.uh,if((6:Int)==6)=true/\(b.sl==9223372036854775807)=true then a.sl else max a.sl (if((6:Int)==6)=true then IntKind.i64.wrap (b.sl+1) else b.sl),a.sh⟩:Rg)=brng 6 a b:=by
 have h2:b.sl≠9223372036854775807:=by simpa using h
 have wa:=Rg.wf_of ha
 have wb:=Rg.wf_of hb
 obtain⟨⟨a0,a1⟩,⟨a2,a3⟩,⟨a4,a5⟩,a6,a7⟩:=wa
 obtain⟨⟨b0,b1⟩,⟨b2,b3⟩,⟨b4,b5⟩,b6,b7⟩:=wb
 have h3:IntKind.i64.wrap (b.sl+1)=b.sl+1:=by rw[aU]; omega
 simp[brng,Rg.ext_iff,h2,h3]
theorem aqR (h:(!(((7:Int)==6)&&(b.sl==9223372036854775807)))=true):bcan 7 a b=true:=by simp[bcan]
theorem aqE (h:(!(((7:Int)==6)&&(b.sl==9223372036854775807)))=true):(⟨a.ul,a.uh,if((7:Int)==6)=true/\(b.sl==9223372036854775807)=true then a.sl else max a.sl (if((7:Int)==6)=true then IntKind.i64.wrap (b.sl+1) else b.sl),a.sh⟩:Rg)=brng 7 a b:=by simp[brng,Rg.ext_iff]
theorem aqL (h:(!(((8:Int)==8)&&(b.sh==(-9223372036854775808))))=false):bcan 8 a b=false:=by
 have h2:b.sh=(-9223372036854775808):=by simpa using h
 simp[bcan,h2]
theorem aqQ (h:(!(((8:Int)==8)&&(b.sh==(-9223372036854775808))))=true):bcan 8 a b=true:=by
 have h2:b.sh≠(-9223372036854775808):=by simpa using h
 simp[bcan,h2]
theorem aqD (h:(!(((8:Int)==8)&&(b.sh==(-9223372036854775808))))=true):(⟨a.ul,a.uh,a.sl,if((8:Int)==8)=true/\(b.sh==(-9223372036854775808))=true then a.sh else min a.sh (if((8:Int)==8)=true then IntKind.i64.wrap (b.sh-1) else b.sh)⟩:Rg)=brng 8 a b:=by
 have h2:b.sh≠(-9223372036854775808):=by simpa using h
 have wa:=Rg.wf_of ha
 have wb:=Rg.wf_of hb
 obtain⟨⟨a0,a1⟩,⟨a2,a3⟩,⟨a4,a5⟩,a6,a7⟩:=wa
 obtain⟨⟨b0,b1⟩,⟨b2,b3⟩,⟨b4,b5⟩,b6,b7⟩:=wb
 have h3:IntKind.i64.wrap (b.sh-1)=b.sh-1:=by rw[aU]; omega
 simp[brng,Rg.ext_iff,h2,h3]
theorem aqP (h:(!(((9:Int)==8)&&(b.sh==(-9223372036854775808))))=true):bcan 9 a b=true:=by simp[bcan]
theorem aqC (h:(!(((9:Int)==8)&&(b.sh==(-9223372036854775808))))=true):(⟨a.ul,a.uh,a.sl,if((9:Int)==8)=true/\(b.sh==(-9223372036854775808))=true then a.sh else min a.sh (if((9:Int)==8)=true then IntKind.i64.wrap (b.sh-1) else b.sh)⟩:Rg)=brng 9 a b:=by simp[brng,Rg.ext_iff]
theorem apw:bcan 10 a b=true:=by simp[bcan]
theorem apt:a=brng 10 a b:=by simp[brng]
theorem apv (h:dQ b=false):bcan 1 a b=true:=by simp[bcan,h]
theorem aps (h:dQ b=false):a=brng 1 a b:=by simp[brng,h]
theorem apu (h:dQ b=true) (hu:(!((a.ul==aB b)&&(a.uh==aB b)))=false\/(!((a.sl==IntKind.i64.wrap (aB b))&&(a.sh==IntKind.i64.wrap (aB b))))=false):bcan 1 a b=false:=by
 have hs:aB b=b.ul:=by unfold aB; rw[h]; simp
 have ht:IntKind.i64.wrap b.ul=s64 b.ul:=(cb _).symm
 rw[hs,ht] at hu
 simp only[bcan,h,if_true]
 rcases hu with hu | hu
 ·simp at hu; simp[hu]
 ·simp at hu; simp[hu]
theorem aqX (h:dQ b=true) (hu:(!((a.ul==aB b)&&(a.uh==aB b)))=true) (hv:(!((a.sl==IntKind.i64.wrap (aB b))&&(a.sh==IntKind.i64.wrap (aB b))))=true):bcan 1 a b=true:=by
 have hs:aB b=b.ul:=by unfold aB; rw[h]; simp
 have ht:IntKind.i64.wrap b.ul=s64 b.ul:=(cb _).symm
 rw[hs] at hu
 rw[hs,ht] at hv
 simp only[bcan,h,if_true]
 simp at hu hv ⊢
 exact⟨hu,hv⟩
theorem aqK (ma:bmay a=true) (h:dQ b=true) (hu:(!((a.ul==aB b)&&(a.uh==aB b)))=true) (hv:(!((a.sl==IntKind.i64.wrap (aB b))&&(a.sh==IntKind.i64.wrap (aB b))))=true):(⟨if(a.ul==aB b)=true/\(a.uh==aB b)=false then IntKind.u64.wrap (a.ul+1) else a.ul,if(a.ul==aB b)=false/\(a.uh==aB b)=true then IntKind.u64.wrap (a.uh-1) else a.uh,if(a.sl==IntKind.i64.wrap (aB b))=true/\(a.sh==IntKind.i64.wrap (aB b))=false then IntKind.i64.wrap (a.sl+1) else a.sl,if(a.sl==IntKind.i64.wrap (aB b))=false/\(a.sh==IntKind.i64.wrap (aB b))=true then IntKind.i64.wrap (a.sh-1) else a.sh⟩:Rg)=brng 1 a b:=by
 have hs:aB b=b.ul:=by unfold aB; rw[h]; simp
 have ht:IntKind.i64.wrap b.ul=s64 b.ul:=(cb _).symm
 rw[hs] at hu
 rw[hs,ht] at hv
 rw[hs,ht]
 have wa:=Rg.wf_of ha
 have wb:=Rg.wf_of hb
 obtain⟨⟨a0,a1⟩,⟨a2,a3⟩,⟨a4,a5⟩,a6,a7⟩:=wa
 obtain⟨⟨b0,b1⟩,⟨b2,b3⟩,⟨b4,b5⟩,b6,b7⟩:=wb
 have sb:=ph b.ul
 rw[ef] at ma
 simp only[brng,h,if_true,Rg.ext_iff]
 generalize s64 b.ul=t at *
 simp only[Bool.not_eq_true',Bool.and_eq_false_iff,beq_eq_false_iff_ne,ne_eq] at hu hv
 simp only[cN,beq_eq_false_iff_ne,ne_eq,bh,aU]
 refine⟨?_,?_,?_,?_⟩<;>(split<;>(try split)<;>omega)
end
def tys_XbE:List (Nat×TI):=[(2,⟨false,1,[.int .i64 (.lit 0)],[],none,some .i64,false,false,none,8,false,none,false,0⟩),
 (37,⟨false,1,[.int .i8 (.lit 0)],[],none,some .i8,false,false,none,1,false,none,false,0⟩),
 (42,⟨false,1,[.int .u64 (.lit 0)],[],none,some .u64,false,false,none,8,false,none,false,0⟩),
 (44,⟨true,4,(zN 4 2211),[(0,42),(1,42),(2,2),(3,2)],none,none,false,false,none,32,false,none,false,0⟩),
 (209,⟨true,2,[.int .u64 (.lit 0),.int .u64 (.lit 0)],[(0,42),(1,42)],none,none,false,false,none,16,false,none,false,0⟩),
 (213,⟨true,2,[.int .i64 (.lit 0),.int .i64 (.lit 0)],[(0,2),(1,2)],none,none,false,false,none,16,false,none,false,0⟩)]
theorem aci:(tys_XbE.all fun p=>ckTI Tryz.prog p.1 p.2)=true:=by kernel_rfl
theorem sL:(tys_XbE.all fun p=>!p.2.eqok)=true:=by kernel_rfl
theorem abX:(tys_XbE.all fun p=>!p.2.keyok)=true:=by kernel_rfl
theorem dx:∀t i,(t,i)∈tys_XbE->TIok Tryz.prog t i:=by
 intro t i h
 refine bC (cz (f:=ckTI Tryz.prog) aci h) (fun he=> ?_) (fun he=> ?_) (fun he=> ?_)
 ·have h1:=thm7.1 sL (t,i) h
  simp[he] at h1
 ·have h1:=thm7.1 sL (t,i) h
  simp[he] at h1
 ·have h1:=thm7.1 abX (t,i) h
  simp[he] at h1
def nj (key:Nat):Sm:=⟨25,key,[.one (.int .i8),.one (.int .i8),.one (.int .u64),.one (.int .u64)],[.one (.int .u64),.one (.int .i64)],true⟩
def mL (op:Int) (l:Int) (x:Int) (y:Int):List Dt:=[.z (if okop op l=true then zdo op l x y else 0),.z (if okop op l=true then 0 else 2)]
def kA:List Dt->List Dt
 | [.z x0,.z x1,.z x2,.z x3]=>mL x0 x1 x2 x3
 | _=>[]
theorem adq (op:Int) (hop:inK .i8 op=true) (l:Int) (hl:inK .i8 l=true) (x:Int) (hx:inK .u64 x=true) (y:Int) (hy:inK .u64 y=true):(∀w,Calls Tryz.prog 25 #[.int .i8 op,.int .i8 l,.int .u64 x,.int .u64 y] w fun e w'=>e=.returned (.tuple #[.int .u64 (if okop op l=true then zdo op l x y else 0),.int .i64 (if okop op l=true then 0 else 2)])/\Ext w w')/\io (.tuple #[.int .u64 (if okop op l=true then zdo op l x y else 0),.int .i64 (if okop op l=true then 0 else 2)])=true:=by
 have gx:=cv hx
 have gy:=cv hy
 cases hk:okop op l
 ·refine⟨fun w=>(apL op l x y w ?_).mono ?_,by simp[io,gi,gz]; decide⟩
  ·unfold okop at hk
   rw[Bool.and_eq_false_iff,Bool.and_eq_false_iff] at hk
   rcases hk with(hk | hk) | hk
   ·have:=thm2 hk
    simp; omega
   ·have:=thm2 hk
    simp; omega
   ·rw[hk]; simp
  ·rintro e w' ⟨rfl,rfl⟩
   exact⟨by simp,Ext.refl _⟩
 ·unfold okop at hk
  simp only[thm0,bm] at hk
  have hz:=pV (anI op l x y gx.1 gx.2 gy.1 gy.2)
  refine⟨fun w=>(apM op l x y w gx.1 gx.2 gy.1 gy.2 hk.1.1 hk.1.2 hk.2).mono ?_,by simp[io,gi,gz,hz]; decide⟩
  rintro e w' ⟨rfl,hx⟩
  exact⟨by simp,hx⟩
theorem amB {sp:Spec} {key:Nat} (hF:sp.F key=kA):SmOk Tryz.prog sp (nj key):=by
 refine SmOk.pure hF rfl rfl fun xs vals w h=> ?_
 obtain⟨_,_,_,rfl,⟨x0,rfl,rfl,gx0⟩,h⟩:=h
 obtain⟨_,_,_,rfl,⟨x1,rfl,rfl,gx1⟩,h⟩:=h
 obtain⟨_,_,_,rfl,⟨x2,rfl,rfl,gx2⟩,h⟩:=h
 obtain⟨_,_,_,rfl,⟨x3,rfl,rfl,gx3⟩,h⟩:=h
 obtain⟨rfl,rfl⟩:=h
 have q:=adq x0 gx0 x1 gx1 x2 gx2 x3 gx3
 refine⟨_,.inr ⟨cX Tryz.func25 (by kernel_rfl) (by kernel_rfl) _ w,q.1 w⟩,?_,fun U v0 nid j he=> ?_⟩
 ·have q2:=q.2
  simp[io,gi,gz] at q2
  simp[nj,kA,mL,List.flatMap_cons,List.flatMap_nil,Sh.cks,List.append_nil,List.cons_append,List.nil_append,b2i_one,eO,q2]
 ·simp only[nj,kA,mL,List.flatMap_cons,List.flatMap_nil,Sh.cks,List.append_nil,List.cons_append,List.nil_append,b2i_one,eqs,dI,dB,bJ,lE,Nat.zero_add,Nat.add_zero,Nat.reduceAdd,and_true] at he
  simp[nj,kA,mL,List.flatMap_cons,List.flatMap_nil,Sh.cks,List.append_nil,List.cons_append,List.nil_append,b2i_one,eN,bk,aE,V.den,C.den,denL,den0,bq,E.I,E.B,he]
def aeB (key:Nat):Sm:=⟨195,key,[.agg kPu,.one (.int .u64)],[.agg kPu,.one .bool],true⟩
def adz (a:Pu) (v:Int):List Dt:=[.z (((⟨if(a.lo==v)=true/\(a.hi==v)=false then IntKind.u64.wrap (a.lo+1) else a.lo,if(a.lo==v)=false/\(a.hi==v)=true then IntKind.u64.wrap (a.hi-1) else a.hi⟩:Pu)).lo),.z (((⟨if(a.lo==v)=true/\(a.hi==v)=false then IntKind.u64.wrap (a.lo+1) else a.lo,if(a.lo==v)=false/\(a.hi==v)=true then IntKind.u64.wrap (a.hi-1) else a.hi⟩:Pu)).hi),.z (b2i ((!((a.lo==v)&&(a.hi==v)))))]
def uv:List Dt->List Dt
 | [.z x0,.z x1,.z x2]=>adz ⟨x0,x1⟩ x2
 | _=>[]
def sT_uwo:Tr:=
(.br (.eq (.var 0) (.var 2))
(.br (.eq (.var 1) (.var 2))
(.leaf (.vs 0 2 (.consb (.tt false) .nil)))
(.leaf (.cons (.bin .add .u64 (.var 0) (.lit 1)) (.cons (.var 1) (.consb (.tt true) .nil)))))
(.br (.eq (.var 1) (.var 2))
(.leaf (.cons (.var 0) (.cons (.bin .sub .u64 (.var 1) (.lit 1)) (.consb (.tt true) .nil))))
(.leaf (.vs 0 2 (.consb (.tt true) .nil)))))
def ajB:Spec:={F:=fun k=>match k with | _=>fun _=>[],pre:=fun k=>match k with | _=>fun _=>True}
theorem aoq:aq tys_XbE [] [] [] [] 200 Tryz.f195 [.agg kPu,.one (.int .u64)] [.agg kPu,.one .bool] true [.int .u64,.int .u64,.int .u64] sT_uwo:=⟨by kernel_rfl,by kernel_rfl,by kernel_rfl⟩
theorem an4 (a:Pu) (ha:Pu.ok a) (v:Int) (hv:inK .u64 v=true) (U:Env) (g:ab U 0 [.int .u64,.int .u64,.int .u64]=[.z a.lo,.z a.hi,.z v]):sT_uwo.asks ajB (fun U e=>e.D U=uv [.z a.lo,.z a.hi,.z v]) U fun _ _=>False:=by
 simp only[ab,varD,thm5,Dt.z.injEq,Dt.l.injEq,b2i_eq_iff,Nat.reduceAdd,and_true] at g
 simp only[sT_uwo,ajB,uv,adz,Tr.asks,ah,okDs,okD,eqs,E.I,E.B,E.L,E.R,E.D,E.vs,E.gs,E.ins,E.sv,E.tn,E.iv,E.zs,E.zr,E.sg,E.tg,E.rg,E.rgs,E.pv,Nat.reduceSub,dI,dB,dL,varD,ab,S1,Nat.reduceAdd,-eq_self,Pu.eta,g]
 constructor<;>intro c0
 constructor<;>intro c1
 ·(simp_all [opI])
 ·(simp_all [opI])
 constructor<;>intro c2
 ·(simp_all [opI])
 ·(simp_all [opI])
theorem aoL {sp:Spec} {key:Nat} (hF:sp.F key=uv) (hP:sp.pre key=fun _=>True:=by rfl):SmOk Tryz.prog sp (aeB key):=
 av (s:=aeB key) hF hP (by kernel_rfl) dx (sm0) Tryz.func195 fn0 aoq (.inl rfl) (fun x0 gx0 x1 gx1 x2 gx2 hp U g=>an4 ⟨x0,x1⟩ ⟨gx0,gx1⟩ x2 gx2 U g)
def aeG (key:Nat):Sm:=⟨196,key,[.agg kPi,.one (.int .i64)],[.agg kPi,.one .bool],true⟩
def adF (a:Pi) (v:Int):List Dt:=[.z (((⟨if(a.lo==v)=true/\(a.hi==v)=false then IntKind.i64.wrap (a.lo+1) else a.lo,if(a.lo==v)=false/\(a.hi==v)=true then IntKind.i64.wrap (a.hi-1) else a.hi⟩:Pi)).lo),.z (((⟨if(a.lo==v)=true/\(a.hi==v)=false then IntKind.i64.wrap (a.lo+1) else a.lo,if(a.lo==v)=false/\(a.hi==v)=true then IntKind.i64.wrap (a.hi-1) else a.hi⟩:Pi)).hi),.z (b2i ((!((a.lo==v)&&(a.hi==v)))))]
def uB:List Dt->List Dt
 | [.z x0,.z x1,.z x2]=>adF ⟨x0,x1⟩ x2
 | _=>[]
def sT_iwo:Tr:=
(.br (.eq (.var 0) (.var 2))
(.br (.eq (.var 1) (.var 2))
(.leaf (.vs 0 2 (.consb (.tt false) .nil)))
(.leaf (.cons (.bin .add .i64 (.var 0) (.lit 1)) (.cons (.var 1) (.consb (.tt true) .nil)))))
(.br (.eq (.var 1) (.var 2))
(.leaf (.cons (.var 0) (.cons (.bin .sub .i64 (.var 1) (.lit 1)) (.consb (.tt true) .nil))))
(.leaf (.vs 0 2 (.consb (.tt true) .nil)))))
def ajL:Spec:={F:=fun k=>match k with | _=>fun _=>[],pre:=fun k=>match k with | _=>fun _=>True}
theorem aoA:aq tys_XbE [] [] [] [] 200 Tryz.f196 [.agg kPi,.one (.int .i64)] [.agg kPi,.one .bool] true [.int .i64,.int .i64,.int .i64] sT_iwo:=⟨by kernel_rfl,by kernel_rfl,by kernel_rfl⟩
theorem aof (a:Pi) (ha:Pi.ok a) (v:Int) (hv:inK .i64 v=true) (U:Env) (g:ab U 0 [.int .i64,.int .i64,.int .i64]=[.z a.lo,.z a.hi,.z v]):sT_iwo.asks ajL (fun U e=>e.D U=uB [.z a.lo,.z a.hi,.z v]) U fun _ _=>False:=by
 simp only[ab,varD,thm5,Dt.z.injEq,Dt.l.injEq,b2i_eq_iff,Nat.reduceAdd,and_true] at g
 simp only[sT_iwo,ajL,uB,adF,Tr.asks,ah,okDs,okD,eqs,E.I,E.B,E.L,E.R,E.D,E.vs,E.gs,E.ins,E.sv,E.tn,E.iv,E.zs,E.zr,E.sg,E.tg,E.rg,E.rgs,E.pv,Nat.reduceSub,dI,dB,dL,varD,ab,S1,Nat.reduceAdd,-eq_self,Pi.eta,g]
 constructor<;>intro c0
 constructor<;>intro c1
 ·(simp_all [opI])
 ·(simp_all [opI])
 constructor<;>intro c2
 ·(simp_all [opI])
 ·(simp_all [opI])
theorem aoS {sp:Spec} {key:Nat} (hF:sp.F key=uB) (hP:sp.pre key=fun _=>True:=by rfl):SmOk Tryz.prog sp (aeG key):=
 av (s:=aeG key) hF hP (by kernel_rfl) dx (sm0) Tryz.func196 fn0 aoA (.inl rfl) (fun x0 gx0 x1 gx1 x2 gx2 hp U g=>aof ⟨x0,x1⟩ ⟨gx0,gx1⟩ x2 gx2 U g)
def mT (key:Nat):Sm:=⟨197,key,[.agg kPu,.agg kPu,.one .bool,.one (.int .u64)],[.agg kPu,.one .bool],true⟩
def mA (a:Pu) (b:Pu) (t:Bool) (m:Int):List Dt:=[.z (((⟨if t=true/\(b.lo==m)=true then a.lo else max a.lo (if t=true then IntKind.u64.wrap (b.lo+1) else b.lo),a.hi⟩:Pu)).lo),.z (((⟨if t=true/\(b.lo==m)=true then a.lo else max a.lo (if t=true then IntKind.u64.wrap (b.lo+1) else b.lo),a.hi⟩:Pu)).hi),.z (b2i ((!(t&&(b.lo==m)))))]
def fQ:List Dt->List Dt
 | [.z x0,.z x1,.z x2,.z x3,.z x4,.z x5]=>mA ⟨x0,x1⟩ ⟨x2,x3⟩ (x4==1) x5
 | _=>[]
def sT_uabove:Tr:=
(.br (.bvar 4)
(.br (.eq (.var 2) (.var 5))
(.leaf (.vs 0 2 (.consb (.tt false) .nil)))
(.leaf (.cons (.mx (.var 0) (.bin .add .u64 (.var 2) (.lit 1))) (.cons (.var 1) (.consb (.tt true) .nil)))))
(.leaf (.cons (.mx (.var 0) (.var 2)) (.cons (.var 1) (.consb (.tt true) .nil)))))
def tW:Spec:={F:=fun k=>match k with | _=>fun _=>[],pre:=fun k=>match k with | _=>fun _=>True}
theorem adK:aq tys_XbE [] [] [] [] 200 Tryz.f197 [.agg kPu,.agg kPu,.one .bool,.one (.int .u64)] [.agg kPu,.one .bool] true [.int .u64,.int .u64,.int .u64,.int .u64,.bool,.int .u64] sT_uabove:=⟨by kernel_rfl,by kernel_rfl,by kernel_rfl⟩
theorem ade (a:Pu) (ha:Pu.ok a) (b:Pu) (hb:Pu.ok b) (t:Bool) (m:Int) (hm:inK .u64 m=true) (U:Env) (g:ab U 0 [.int .u64,.int .u64,.int .u64,.int .u64,.bool,.int .u64]=[.z a.lo,.z a.hi,.z b.lo,.z b.hi,.z (b2i t),.z m]):sT_uabove.asks tW (fun U e=>e.D U=fQ [.z a.lo,.z a.hi,.z b.lo,.z b.hi,.z (b2i t),.z m]) U fun _ _=>False:=by
 simp only[ab,varD,thm5,Dt.z.injEq,Dt.l.injEq,b2i_eq_iff,Nat.reduceAdd,and_true] at g
 simp only[sT_uabove,tW,fQ,mA,Tr.asks,ah,okDs,okD,eqs,E.I,E.B,E.L,E.R,E.D,E.vs,E.gs,E.ins,E.sv,E.tn,E.iv,E.zs,E.zr,E.sg,E.tg,E.rg,E.rgs,E.pv,Nat.reduceSub,dI,dB,dL,varD,ab,S1,Nat.reduceAdd,-eq_self,Pu.eta,g]
 constructor<;>intro c0
 constructor<;>intro c1
 ·(simp_all [opI])
 ·(simp_all [opI])
 ·(simp_all [opI])
theorem aeM {sp:Spec} {key:Nat} (hF:sp.F key=fQ) (hP:sp.pre key=fun _=>True:=by rfl):SmOk Tryz.prog sp (mT key):=
 av (s:=mT key) hF hP (by kernel_rfl) dx (sm0) Tryz.func197 fn0 adK (.inl rfl) (fun x0 gx0 x1 gx1 x2 gx2 x3 gx3 x4 x5 gx5 hp U g=>ade ⟨x0,x1⟩ ⟨gx0,gx1⟩ ⟨x2,x3⟩ ⟨gx2,gx3⟩ x4 x5 gx5 U g)
def mS (key:Nat):Sm:=⟨198,key,[.agg kPu,.agg kPu,.one .bool,.one (.int .u64)],[.agg kPu,.one .bool],true⟩
def mz (a:Pu) (b:Pu) (t:Bool) (m:Int):List Dt:=[.z (((⟨a.lo,if t=true/\(b.hi==m)=true then a.hi else min a.hi (if t=true then IntKind.u64.wrap (b.hi-1) else b.hi)⟩:Pu)).lo),.z (((⟨a.lo,if t=true/\(b.hi==m)=true then a.hi else min a.hi (if t=true then IntKind.u64.wrap (b.hi-1) else b.hi)⟩:Pu)).hi),.z (b2i ((!(t&&(b.hi==m)))))]
def fP:List Dt->List Dt
 | [.z x0,.z x1,.z x2,.z x3,.z x4,.z x5]=>mz ⟨x0,x1⟩ ⟨x2,x3⟩ (x4==1) x5
 | _=>[]
def sT_ubelow:Tr:=
(.br (.bvar 4)
(.br (.eq (.var 3) (.var 5))
(.leaf (.vs 0 2 (.consb (.tt false) .nil)))
(.leaf (.cons (.var 0) (.cons (.mn (.var 1) (.bin .sub .u64 (.var 3) (.lit 1))) (.consb (.tt true) .nil)))))
(.leaf (.cons (.var 0) (.cons (.mn (.var 1) (.var 3)) (.consb (.tt true) .nil)))))
def tV:Spec:={F:=fun k=>match k with | _=>fun _=>[],pre:=fun k=>match k with | _=>fun _=>True}
theorem adJ:aq tys_XbE [] [] [] [] 200 Tryz.f198 [.agg kPu,.agg kPu,.one .bool,.one (.int .u64)] [.agg kPu,.one .bool] true [.int .u64,.int .u64,.int .u64,.int .u64,.bool,.int .u64] sT_ubelow:=⟨by kernel_rfl,by kernel_rfl,by kernel_rfl⟩
theorem adc (a:Pu) (ha:Pu.ok a) (b:Pu) (hb:Pu.ok b) (t:Bool) (m:Int) (hm:inK .u64 m=true) (U:Env) (g:ab U 0 [.int .u64,.int .u64,.int .u64,.int .u64,.bool,.int .u64]=[.z a.lo,.z a.hi,.z b.lo,.z b.hi,.z (b2i t),.z m]):sT_ubelow.asks tV (fun U e=>e.D U=fP [.z a.lo,.z a.hi,.z b.lo,.z b.hi,.z (b2i t),.z m]) U fun _ _=>False:=by
 simp only[ab,varD,thm5,Dt.z.injEq,Dt.l.injEq,b2i_eq_iff,Nat.reduceAdd,and_true] at g
 simp only[sT_ubelow,tV,fP,mz,Tr.asks,ah,okDs,okD,eqs,E.I,E.B,E.L,E.R,E.D,E.vs,E.gs,E.ins,E.sv,E.tn,E.iv,E.zs,E.zr,E.sg,E.tg,E.rg,E.rgs,E.pv,Nat.reduceSub,dI,dB,dL,varD,ab,S1,Nat.reduceAdd,-eq_self,Pu.eta,g]
 constructor<;>intro c0
 constructor<;>intro c1
 ·(simp_all [opI])
 ·(simp_all [opI])
 ·(simp_all [opI])
theorem aeL {sp:Spec} {key:Nat} (hF:sp.F key=fP) (hP:sp.pre key=fun _=>True:=by rfl):SmOk Tryz.prog sp (mS key):=
 av (s:=mS key) hF hP (by kernel_rfl) dx (sm0) Tryz.func198 fn0 adJ (.inl rfl) (fun x0 gx0 x1 gx1 x2 gx2 x3 gx3 x4 x5 gx5 hp U g=>adc ⟨x0,x1⟩ ⟨gx0,gx1⟩ ⟨x2,x3⟩ ⟨gx2,gx3⟩ x4 x5 gx5 U g)
def ni (key:Nat):Sm:=⟨199,key,[.agg kPi,.agg kPi,.one .bool,.one (.int .i64)],[.agg kPi,.one .bool],true⟩
def mK (a:Pi) (b:Pi) (t:Bool) (m:Int):List Dt:=[.z (((⟨if t=true/\(b.lo==m)=true then a.lo else max a.lo (if t=true then IntKind.i64.wrap (b.lo+1) else b.lo),a.hi⟩:Pi)).lo),.z (((⟨if t=true/\(b.lo==m)=true then a.lo else max a.lo (if t=true then IntKind.i64.wrap (b.lo+1) else b.lo),a.hi⟩:Pi)).hi),.z (b2i ((!(t&&(b.lo==m)))))]
def fX:List Dt->List Dt
 | [.z x0,.z x1,.z x2,.z x3,.z x4,.z x5]=>mK ⟨x0,x1⟩ ⟨x2,x3⟩ (x4==1) x5
 | _=>[]
def sT_iabove:Tr:=
(.br (.bvar 4)
(.br (.eq (.var 2) (.var 5))
(.leaf (.vs 0 2 (.consb (.tt false) .nil)))
(.leaf (.cons (.mx (.var 0) (.bin .add .i64 (.var 2) (.lit 1))) (.cons (.var 1) (.consb (.tt true) .nil)))))
(.leaf (.cons (.mx (.var 0) (.var 2)) (.cons (.var 1) (.consb (.tt true) .nil)))))
def ui:Spec:={F:=fun k=>match k with | _=>fun _=>[],pre:=fun k=>match k with | _=>fun _=>True}
theorem adV:aq tys_XbE [] [] [] [] 200 Tryz.f199 [.agg kPi,.agg kPi,.one .bool,.one (.int .i64)] [.agg kPi,.one .bool] true [.int .i64,.int .i64,.int .i64,.int .i64,.bool,.int .i64] sT_iabove:=⟨by kernel_rfl,by kernel_rfl,by kernel_rfl⟩
theorem adp (a:Pi) (ha:Pi.ok a) (b:Pi) (hb:Pi.ok b) (t:Bool) (m:Int) (hm:inK .i64 m=true) (U:Env) (g:ab U 0 [.int .i64,.int .i64,.int .i64,.int .i64,.bool,.int .i64]=[.z a.lo,.z a.hi,.z b.lo,.z b.hi,.z (b2i t),.z m]):sT_iabove.asks ui (fun U e=>e.D U=fX [.z a.lo,.z a.hi,.z b.lo,.z b.hi,.z (b2i t),.z m]) U fun _ _=>False:=by
 simp only[ab,varD,thm5,Dt.z.injEq,Dt.l.injEq,b2i_eq_iff,Nat.reduceAdd,and_true] at g
 simp only[sT_iabove,ui,fX,mK,Tr.asks,ah,okDs,okD,eqs,E.I,E.B,E.L,E.R,E.D,E.vs,E.gs,E.ins,E.sv,E.tn,E.iv,E.zs,E.zr,E.sg,E.tg,E.rg,E.rgs,E.pv,Nat.reduceSub,dI,dB,dL,varD,ab,S1,Nat.reduceAdd,-eq_self,Pi.eta,g]
 constructor<;>intro c0
 constructor<;>intro c1
 ·(simp_all [opI])
 ·(simp_all [opI])
 ·(simp_all [opI])
theorem ae6 {sp:Spec} {key:Nat} (hF:sp.F key=fX) (hP:sp.pre key=fun _=>True:=by rfl):SmOk Tryz.prog sp (ni key):=
 av (s:=ni key) hF hP (by kernel_rfl) dx (sm0) Tryz.func199 fn0 adV (.inl rfl) (fun x0 gx0 x1 gx1 x2 gx2 x3 gx3 x4 x5 gx5 hp U g=>adp ⟨x0,x1⟩ ⟨gx0,gx1⟩ ⟨x2,x3⟩ ⟨gx2,gx3⟩ x4 x5 gx5 U g)
def nh (key:Nat):Sm:=⟨200,key,[.agg kPi,.agg kPi,.one .bool,.one (.int .i64)],[.agg kPi,.one .bool],true⟩
def mJ (a:Pi) (b:Pi) (t:Bool) (m:Int):List Dt:=[.z (((⟨a.lo,if t=true/\(b.hi==m)=true then a.hi else min a.hi (if t=true then IntKind.i64.wrap (b.hi-1) else b.hi)⟩:Pi)).lo),.z (((⟨a.lo,if t=true/\(b.hi==m)=true then a.hi else min a.hi (if t=true then IntKind.i64.wrap (b.hi-1) else b.hi)⟩:Pi)).hi),.z (b2i ((!(t&&(b.hi==m)))))]
def fW:List Dt->List Dt
 | [.z x0,.z x1,.z x2,.z x3,.z x4,.z x5]=>mJ ⟨x0,x1⟩ ⟨x2,x3⟩ (x4==1) x5
 | _=>[]
def sT_ibelow:Tr:=
(.br (.bvar 4)
(.br (.eq (.var 3) (.var 5))
(.leaf (.vs 0 2 (.consb (.tt false) .nil)))
(.leaf (.cons (.var 0) (.cons (.mn (.var 1) (.bin .sub .i64 (.var 3) (.lit 1))) (.consb (.tt true) .nil)))))
(.leaf (.cons (.var 0) (.cons (.mn (.var 1) (.var 3)) (.consb (.tt true) .nil)))))
def ug:Spec:={F:=fun k=>match k with | _=>fun _=>[],pre:=fun k=>match k with | _=>fun _=>True}
theorem adU:aq tys_XbE [] [] [] [] 200 Tryz.f200 [.agg kPi,.agg kPi,.one .bool,.one (.int .i64)] [.agg kPi,.one .bool] true [.int .i64,.int .i64,.int .i64,.int .i64,.bool,.int .i64] sT_ibelow:=⟨by kernel_rfl,by kernel_rfl,by kernel_rfl⟩
theorem ado (a:Pi) (ha:Pi.ok a) (b:Pi) (hb:Pi.ok b) (t:Bool) (m:Int) (hm:inK .i64 m=true) (U:Env) (g:ab U 0 [.int .i64,.int .i64,.int .i64,.int .i64,.bool,.int .i64]=[.z a.lo,.z a.hi,.z b.lo,.z b.hi,.z (b2i t),.z m]):sT_ibelow.asks ug (fun U e=>e.D U=fW [.z a.lo,.z a.hi,.z b.lo,.z b.hi,.z (b2i t),.z m]) U fun _ _=>False:=by
 simp only[ab,varD,thm5,Dt.z.injEq,Dt.l.injEq,b2i_eq_iff,Nat.reduceAdd,and_true] at g
 simp only[sT_ibelow,ug,fW,mJ,Tr.asks,ah,okDs,okD,eqs,E.I,E.B,E.L,E.R,E.D,E.vs,E.gs,E.ins,E.sv,E.tn,E.iv,E.zs,E.zr,E.sg,E.tg,E.rg,E.rgs,E.pv,Nat.reduceSub,dI,dB,dL,varD,ab,S1,Nat.reduceAdd,-eq_self,Pi.eta,g]
 constructor<;>intro c0
 constructor<;>intro c1
 ·(simp_all [opI])
 ·(simp_all [opI])
 ·(simp_all [opI])
theorem ae5 {sp:Spec} {key:Nat} (hF:sp.F key=fW) (hP:sp.pre key=fun _=>True:=by rfl):SmOk Tryz.prog sp (nh key):=
 av (s:=nh key) hF hP (by kernel_rfl) dx (sm0) Tryz.func200 fn0 adU (.inl rfl) (fun x0 gx0 x1 gx1 x2 gx2 x3 gx3 x4 x5 gx5 hp U g=>ado ⟨x0,x1⟩ ⟨gx0,gx1⟩ ⟨x2,x3⟩ ⟨gx2,gx3⟩ x4 x5 gx5 U g)
def rC (key:Nat):Sm:=⟨149,key,[.one (.int .i8),.agg kRg,.agg kRg],[.agg kRg,.one .bool],true⟩
def qM (cc:Int) (a:Rg) (b:Rg):List Dt:=[.z ((bgiv cc a b).ul),.z ((bgiv cc a b).uh),.z ((bgiv cc a b).sl),.z ((bgiv cc a b).sh),.z (b2i (bgok cc a b))]
def jC:List Dt->List Dt
 | [.z x0,.z x1,.z x2,.z x3,.z x4,.z x5,.z x6,.z x7,.z x8]=>qM x0 ⟨x1,x2,x3,x4⟩ ⟨x5,x6,x7,x8⟩
 | _=>[]
def sT_given:Tr:=
(.call 0 [.bool] (.vs 1 4 .nil) 9
(.br (.bvar 9)
(.call 0 [.bool] (.vs 5 4 .nil) 10
(.br (.bvar 10)
(.br (.lt (.var 0) (.lit 0))
(.call 1 (kRg) .nil 11
(.leaf (.vs 11 4 (.consb (.tt false) .nil))))
(.br (.lt (.lit 10) (.var 0))
(.call 1 (kRg) .nil 11
(.leaf (.vs 11 4 (.consb (.tt false) .nil))))
(.call 4 (kPu) (.vs 1 4 .nil) 11
(.call 5 (kPi) (.vs 1 4 .nil) 13
(.br (.eq (.var 0) (.lit 0))
(.call 2 (kRg++[.bool]) (.vs 1 8 .nil) 15
(.leaf (.vs 15 4 (.consb (.bvar 19) .nil))))
(.br (.eq (.var 0) (.lit 1))
(.call 3 [.int .u64,.bool] (.vs 5 4 .nil) 15
(.br (.bvar 16)
(.call 6 (kPu++[.bool]) (.vs 11 2 (.cons (.var 15) .nil)) 17
(.call 7 (kPi++[.bool]) (.vs 13 2 (.cons (.conv .i64 (.var 15)) .nil)) 20
(.br (.bvar 19)
(.br (.bvar 22)
(.call 12 (kRg) (.vs 17 2 (.vs 20 2 .nil)) 23
(.call 13 (kRg++[.bool]) (.vs 23 4 .nil) 27
(.leaf (.vs 27 4 (.consb (.bvar 31) .nil)))))
(.call 1 (kRg) .nil 23
(.leaf (.vs 23 4 (.consb (.tt false) .nil)))))
(.call 1 (kRg) .nil 23
(.leaf (.vs 23 4 (.consb (.tt false) .nil)))))))
(.call 12 (kRg) (.vs 11 4 .nil) 17
(.call 13 (kRg++[.bool]) (.vs 17 4 .nil) 21
(.leaf (.vs 21 4 (.consb (.bvar 25) .nil)))))))
(.br (.eq (.var 0) (.lit 2))
(.call 4 (kPu) (.vs 5 4 .nil) 15
(.call 8 (kPu++[.bool]) (.vs 11 2 (.vs 15 2 (.consb (.eq (.var 0) (.lit 2)) (.cons (.lit 18446744073709551615) .nil)))) 17
(.br (.bvar 19)
(.call 12 (kRg) (.vs 17 2 (.vs 13 2 .nil)) 20
(.call 13 (kRg++[.bool]) (.vs 20 4 .nil) 24
(.leaf (.vs 24 4 (.consb (.bvar 28) .nil)))))
(.call 1 (kRg) .nil 20
(.leaf (.vs 20 4 (.consb (.tt false) .nil)))))))
(.br (.eq (.var 0) (.lit 3))
(.call 4 (kPu) (.vs 5 4 .nil) 15
(.call 8 (kPu++[.bool]) (.vs 11 2 (.vs 15 2 (.consb (.eq (.var 0) (.lit 2)) (.cons (.lit 18446744073709551615) .nil)))) 17
(.br (.bvar 19)
(.call 12 (kRg) (.vs 17 2 (.vs 13 2 .nil)) 20
(.call 13 (kRg++[.bool]) (.vs 20 4 .nil) 24
(.leaf (.vs 24 4 (.consb (.bvar 28) .nil)))))
(.call 1 (kRg) .nil 20
(.leaf (.vs 20 4 (.consb (.tt false) .nil)))))))
(.br (.eq (.var 0) (.lit 4))
(.call 4 (kPu) (.vs 5 4 .nil) 15
(.call 9 (kPu++[.bool]) (.vs 11 2 (.vs 15 2 (.consb (.eq (.var 0) (.lit 4)) (.cons (.lit 0) .nil)))) 17
(.br (.bvar 19)
(.call 12 (kRg) (.vs 17 2 (.vs 13 2 .nil)) 20
(.call 13 (kRg++[.bool]) (.vs 20 4 .nil) 24
(.leaf (.vs 24 4 (.consb (.bvar 28) .nil)))))
(.call 1 (kRg) .nil 20
(.leaf (.vs 20 4 (.consb (.tt false) .nil)))))))
(.br (.eq (.var 0) (.lit 5))
(.call 4 (kPu) (.vs 5 4 .nil) 15
(.call 9 (kPu++[.bool]) (.vs 11 2 (.vs 15 2 (.consb (.eq (.var 0) (.lit 4)) (.cons (.lit 0) .nil)))) 17
(.br (.bvar 19)
(.call 12 (kRg) (.vs 17 2 (.vs 13 2 .nil)) 20
(.call 13 (kRg++[.bool]) (.vs 20 4 .nil) 24
(.leaf (.vs 24 4 (.consb (.bvar 28) .nil)))))
(.call 1 (kRg) .nil 20
(.leaf (.vs 20 4 (.consb (.tt false) .nil)))))))
(.br (.eq (.var 0) (.lit 6))
(.call 5 (kPi) (.vs 5 4 .nil) 15
(.call 10 (kPi++[.bool]) (.vs 13 4 (.consb (.eq (.var 0) (.lit 6)) (.cons (.lit 9223372036854775807) .nil))) 17
(.br (.bvar 19)
(.call 12 (kRg) (.vs 11 2 (.vs 17 2 .nil)) 20
(.call 13 (kRg++[.bool]) (.vs 20 4 .nil) 24
(.leaf (.vs 24 4 (.consb (.bvar 28) .nil)))))
(.call 1 (kRg) .nil 20
(.leaf (.vs 20 4 (.consb (.tt false) .nil)))))))
(.br (.eq (.var 0) (.lit 7))
(.call 5 (kPi) (.vs 5 4 .nil) 15
(.call 10 (kPi++[.bool]) (.vs 13 4 (.consb (.eq (.var 0) (.lit 6)) (.cons (.lit 9223372036854775807) .nil))) 17
(.br (.bvar 19)
(.call 12 (kRg) (.vs 11 2 (.vs 17 2 .nil)) 20
(.call 13 (kRg++[.bool]) (.vs 20 4 .nil) 24
(.leaf (.vs 24 4 (.consb (.bvar 28) .nil)))))
(.call 1 (kRg) .nil 20
(.leaf (.vs 20 4 (.consb (.tt false) .nil)))))))
(.br (.eq (.var 0) (.lit 8))
(.call 5 (kPi) (.vs 5 4 .nil) 15
(.call 11 (kPi++[.bool]) (.vs 13 4 (.consb (.eq (.var 0) (.lit 8)) (.cons (.lit (-9223372036854775808)) .nil))) 17
(.br (.bvar 19)
(.call 12 (kRg) (.vs 11 2 (.vs 17 2 .nil)) 20
(.call 13 (kRg++[.bool]) (.vs 20 4 .nil) 24
(.leaf (.vs 24 4 (.consb (.bvar 28) .nil)))))
(.call 1 (kRg) .nil 20
(.leaf (.vs 20 4 (.consb (.tt false) .nil)))))))
(.br (.eq (.var 0) (.lit 9))
(.call 5 (kPi) (.vs 5 4 .nil) 15
(.call 11 (kPi++[.bool]) (.vs 13 4 (.consb (.eq (.var 0) (.lit 8)) (.cons (.lit (-9223372036854775808)) .nil))) 17
(.br (.bvar 19)
(.call 12 (kRg) (.vs 11 2 (.vs 17 2 .nil)) 20
(.call 13 (kRg++[.bool]) (.vs 20 4 .nil) 24
(.leaf (.vs 24 4 (.consb (.bvar 28) .nil)))))
(.call 1 (kRg) .nil 20
(.leaf (.vs 20 4 (.consb (.tt false) .nil)))))))
(.call 12 (kRg) (.vs 11 4 .nil) 15
(.call 13 (kRg++[.bool]) (.vs 15 4 .nil) 19
(.leaf (.vs 19 4 (.consb (.bvar 23) .nil)))))))))))))))))))
(.call 1 (kRg) .nil 11
(.leaf (.vs 11 4 (.consb (.tt false) .nil))))))
(.call 1 (kRg) .nil 10
(.leaf (.vs 10 4 (.consb (.tt false) .nil))))))
def zc:Spec:={F:=fun k=>match k with | 0=>cE | 1=>bv | 2=>iE | 3=>cD | 4=>dE | 5=>dG | 6=>uv | 7=>uB | 8=>fQ | 9=>fP | 10=>fX | 11=>fW | 12=>iB | 13=>jw | _=>fun _=>[],pre:=fun k=>match k with | _=>fun _=>True}
theorem aig:aq tys_XbE [gZ 0,dD 1,rp 2,fN 3,lg 4,lh 5,aeB 6,aeG 7,mT 8,mS 9,ni 10,nh 11,uk 12,um 13] [] [] [] 200 Tryz.f149 [.one (.int .i8),.agg kRg,.agg kRg] [.agg kRg,.one .bool] true [.int .i8,.int .u64,.int .u64,.int .i64,.int .i64,.int .u64,.int .u64,.int .i64,.int .i64] sT_given:=⟨by kernel_rfl,by kernel_rfl,by kernel_rfl⟩
theorem ahM (cc:Int) (hcc:inK .i8 cc=true) (a:Rg) (ha:Rg.ok a) (b:Rg) (hb:Rg.ok b) (U:Env) (g:ab U 0 [.int .i8,.int .u64,.int .u64,.int .i64,.int .i64,.int .u64,.int .u64,.int .i64,.int .i64]=[.z cc,.z a.ul,.z a.uh,.z a.sl,.z a.sh,.z b.ul,.z b.uh,.z b.sl,.z b.sh]):sT_given.asks zc (fun U e=>e.D U=jC [.z cc,.z a.ul,.z a.uh,.z a.sl,.z a.sh,.z b.ul,.z b.uh,.z b.sl,.z b.sh]) U fun _ _=>False:=by
 simp only[ab,varD,thm5,Dt.z.injEq,Dt.l.injEq,b2i_eq_iff,Nat.reduceAdd,and_true] at g
 simp only[sT_given,zc,kPi,kPu,kRg,cE,bv,iE,cD,dE,dG,uv,uB,fQ,fP,fX,fW,iB,jw,gY,qF,fL,lc,lf,adz,adF,mA,mz,mK,mJ,tS,tT,jC,qM,Tr.asks,ah,okDs,okD,eqs,E.I,E.B,E.L,E.R,E.D,E.vs,E.gs,E.ins,E.sv,E.tn,E.iv,E.zs,E.zr,E.sg,E.tg,E.rg,E.rgs,E.pv,Nat.reduceSub,dI,dB,dL,varD,ab,S1,Nat.reduceAdd,-eq_self,aj,g]
 intro e; (try simp only[e,aj,-eq_self]); clear e
 constructor<;>intro c0
 intro e; (try simp only[e,aj,-eq_self]); clear e
 constructor<;>intro c1
 constructor<;>intro c2
 intro e; (try simp only[e,aj,-eq_self]); clear e
 ·exact cf (ed (.inl (by unfold jZ; rw[c0,c1,gT (show¬0<=cc from Int.not_le.2 (thm3 c2))]; rfl))).1 (ed (.inl (by unfold jZ; rw[c0,c1,gT (show¬0<=cc from Int.not_le.2 (thm3 c2))]; rfl))).2
 constructor<;>intro c3
 intro e; (try simp only[e,aj,-eq_self]); clear e
 ·exact cf (ed (.inl (by unfold jZ; rw[c0,c1,gT (show¬cc<=10 from Int.not_le.2 (thm3 c3))]; simp))).1 (ed (.inl (by unfold jZ; rw[c0,c1,gT (show¬cc<=10 from Int.not_le.2 (thm3 c3))]; simp))).2
 intro e; (try simp only[e,aj,-eq_self]); clear e
 intro e; (try simp only[e,aj,-eq_self]); clear e
 constructor<;>intro c4
 intro e; (try simp only[e,aj,-eq_self]); clear e
 ·(have hcc:0<=cc/\cc<=10:=⟨Int.not_lt.1 (thm2 c2),Int.not_lt.1 (thm2 c3)⟩; have hg:=bp c0 c1 hcc; obtain rfl:=eqz c4; exact cf (apx hg).1 (apx hg).2)
 constructor<;>intro c5
 intro e; (try simp only[e,aj,-eq_self]); clear e
 constructor<;>intro c6
 intro e; (try simp only[e,aj,-eq_self]); clear e
 intro e; (try simp only[e,aj,-eq_self]); clear e
 constructor<;>intro c7
 constructor<;>intro c8
 intro e; (try simp only[e,aj,-eq_self]); clear e
 intro e; (try simp only[e,aj,-eq_self]); clear e
 ·(have hcc:0<=cc/\cc<=10:=⟨Int.not_lt.1 (thm2 c2),Int.not_lt.1 (thm2 c3)⟩; have hg:=bp c0 c1 hcc; obtain rfl:=eqz c5; have hq:=gp (by omega) hg (aqX ha hb c6 c7 c8) (aqK ha hb c0 c6 c7 c8); exact cf hq.1 hq.2)
 intro e; (try simp only[e,aj,-eq_self]); clear e
 ·(have hcc:0<=cc/\cc<=10:=⟨Int.not_lt.1 (thm2 c2),Int.not_lt.1 (thm2 c3)⟩; have hg:=bp c0 c1 hcc; obtain rfl:=eqz c5; have hq:=ed (cc:=1) (.inr ⟨by omega,apu ha hb c6 (.inr c8)⟩); exact cf hq.1 hq.2)
 intro e; (try simp only[e,aj,-eq_self]); clear e
 ·(have hcc:0<=cc/\cc<=10:=⟨Int.not_lt.1 (thm2 c2),Int.not_lt.1 (thm2 c3)⟩; have hg:=bp c0 c1 hcc; obtain rfl:=eqz c5; have hq:=ed (cc:=1) (.inr ⟨by omega,apu ha hb c6 (.inl c7)⟩); exact cf hq.1 hq.2)
 intro e; (try simp only[e,aj,-eq_self]); clear e
 intro e; (try simp only[e,aj,-eq_self]); clear e
 ·(have hcc:0<=cc/\cc<=10:=⟨Int.not_lt.1 (thm2 c2),Int.not_lt.1 (thm2 c3)⟩; have hg:=bp c0 c1 hcc; obtain rfl:=eqz c5; have hq:=gp (by omega) hg (apv ha hb c6) (aps ha hb c6); exact cf hq.1 hq.2)
 constructor<;>intro c9
 intro e; (try simp only[e,aj,-eq_self]); clear e
 intro e; (try simp only[e,aj,-eq_self]); clear e
 constructor<;>intro c10
 intro e; (try simp only[e,aj,-eq_self]); clear e
 intro e; (try simp only[e,aj,-eq_self]); clear e
 ·(have hcc:0<=cc/\cc<=10:=⟨Int.not_lt.1 (thm2 c2),Int.not_lt.1 (thm2 c3)⟩; have hg:=bp c0 c1 hcc; obtain rfl:=eqz c9; have hq:=gp (by omega) hg (aqW ha hb c10) (aqJ ha hb c10); exact cf hq.1 hq.2)
 intro e; (try simp only[e,aj,-eq_self]); clear e
 ·(have hcc:0<=cc/\cc<=10:=⟨Int.not_lt.1 (thm2 c2),Int.not_lt.1 (thm2 c3)⟩; have hg:=bp c0 c1 hcc; obtain rfl:=eqz c9; have hq:=ed (cc:=2) (.inr ⟨by omega,aqO ha hb c10⟩); exact cf hq.1 hq.2)
 constructor<;>intro c11
 intro e; (try simp only[e,aj,-eq_self]); clear e
 intro e; (try simp only[e,aj,-eq_self]); clear e
 constructor<;>intro c12
 intro e; (try simp only[e,aj,-eq_self]); clear e
 intro e; (try simp only[e,aj,-eq_self]); clear e
 ·(have hcc:0<=cc/\cc<=10:=⟨Int.not_lt.1 (thm2 c2),Int.not_lt.1 (thm2 c3)⟩; have hg:=bp c0 c1 hcc; obtain rfl:=eqz c11; have hq:=gp (by omega) hg (aqV ha hb c12) (aqI ha hb c12); exact cf hq.1 hq.2)
 intro e; (try simp only[e,aj,-eq_self]); clear e
 ·(have hcc:0<=cc/\cc<=10:=⟨Int.not_lt.1 (thm2 c2),Int.not_lt.1 (thm2 c3)⟩; have hg:=bp c0 c1 hcc; obtain rfl:=eqz c11; exact absurd c12 (by simp))
 constructor<;>intro c13
 intro e; (try simp only[e,aj,-eq_self]); clear e
 intro e; (try simp only[e,aj,-eq_self]); clear e
 constructor<;>intro c14
 intro e; (try simp only[e,aj,-eq_self]); clear e
 intro e; (try simp only[e,aj,-eq_self]); clear e
 ·(have hcc:0<=cc/\cc<=10:=⟨Int.not_lt.1 (thm2 c2),Int.not_lt.1 (thm2 c3)⟩; have hg:=bp c0 c1 hcc; obtain rfl:=eqz c13; have hq:=gp (by omega) hg (aqU ha hb c14) (aqH ha hb c14); exact cf hq.1 hq.2)
 intro e; (try simp only[e,aj,-eq_self]); clear e
 ·(have hcc:0<=cc/\cc<=10:=⟨Int.not_lt.1 (thm2 c2),Int.not_lt.1 (thm2 c3)⟩; have hg:=bp c0 c1 hcc; obtain rfl:=eqz c13; have hq:=ed (cc:=4) (.inr ⟨by omega,aqN ha hb c14⟩); exact cf hq.1 hq.2)
 constructor<;>intro c15
 intro e; (try simp only[e,aj,-eq_self]); clear e
 intro e; (try simp only[e,aj,-eq_self]); clear e
 constructor<;>intro c16
 intro e; (try simp only[e,aj,-eq_self]); clear e
 intro e; (try simp only[e,aj,-eq_self]); clear e
 ·(have hcc:0<=cc/\cc<=10:=⟨Int.not_lt.1 (thm2 c2),Int.not_lt.1 (thm2 c3)⟩; have hg:=bp c0 c1 hcc; obtain rfl:=eqz c15; have hq:=gp (by omega) hg (aqT ha hb c16) (aqG ha hb c16); exact cf hq.1 hq.2)
 intro e; (try simp only[e,aj,-eq_self]); clear e
 ·(have hcc:0<=cc/\cc<=10:=⟨Int.not_lt.1 (thm2 c2),Int.not_lt.1 (thm2 c3)⟩; have hg:=bp c0 c1 hcc; obtain rfl:=eqz c15; exact absurd c16 (by simp))
 constructor<;>intro c17
 intro e; (try simp only[e,aj,-eq_self]); clear e
 intro e; (try simp only[e,aj,-eq_self]); clear e
 constructor<;>intro c18
 intro e; (try simp only[e,aj,-eq_self]); clear e
 intro e; (try simp only[e,aj,-eq_self]); clear e
 ·(have hcc:0<=cc/\cc<=10:=⟨Int.not_lt.1 (thm2 c2),Int.not_lt.1 (thm2 c3)⟩; have hg:=bp c0 c1 hcc; obtain rfl:=eqz c17; have hq:=gp (by omega) hg (aqS ha hb c18) (aqF ha hb c18); exact cf hq.1 hq.2)
 intro e; (try simp only[e,aj,-eq_self]); clear e
 ·(have hcc:0<=cc/\cc<=10:=⟨Int.not_lt.1 (thm2 c2),Int.not_lt.1 (thm2 c3)⟩; have hg:=bp c0 c1 hcc; obtain rfl:=eqz c17; have hq:=ed (cc:=6) (.inr ⟨by omega,aqM ha hb c18⟩); exact cf hq.1 hq.2)
 constructor<;>intro c19
 intro e; (try simp only[e,aj,-eq_self]); clear e
 intro e; (try simp only[e,aj,-eq_self]); clear e
 constructor<;>intro c20
 intro e; (try simp only[e,aj,-eq_self]); clear e
 intro e; (try simp only[e,aj,-eq_self]); clear e
 ·(have hcc:0<=cc/\cc<=10:=⟨Int.not_lt.1 (thm2 c2),Int.not_lt.1 (thm2 c3)⟩; have hg:=bp c0 c1 hcc; obtain rfl:=eqz c19; have hq:=gp (by omega) hg (aqR ha hb c20) (aqE ha hb c20); exact cf hq.1 hq.2)
 intro e; (try simp only[e,aj,-eq_self]); clear e
 ·(have hcc:0<=cc/\cc<=10:=⟨Int.not_lt.1 (thm2 c2),Int.not_lt.1 (thm2 c3)⟩; have hg:=bp c0 c1 hcc; obtain rfl:=eqz c19; exact absurd c20 (by simp))
 constructor<;>intro c21
 intro e; (try simp only[e,aj,-eq_self]); clear e
 intro e; (try simp only[e,aj,-eq_self]); clear e
 constructor<;>intro c22
 intro e; (try simp only[e,aj,-eq_self]); clear e
 intro e; (try simp only[e,aj,-eq_self]); clear e
 ·(have hcc:0<=cc/\cc<=10:=⟨Int.not_lt.1 (thm2 c2),Int.not_lt.1 (thm2 c3)⟩; have hg:=bp c0 c1 hcc; obtain rfl:=eqz c21; have hq:=gp (by omega) hg (aqQ ha hb c22) (aqD ha hb c22); exact cf hq.1 hq.2)
 intro e; (try simp only[e,aj,-eq_self]); clear e
 ·(have hcc:0<=cc/\cc<=10:=⟨Int.not_lt.1 (thm2 c2),Int.not_lt.1 (thm2 c3)⟩; have hg:=bp c0 c1 hcc; obtain rfl:=eqz c21; have hq:=ed (cc:=8) (.inr ⟨by omega,aqL ha hb c22⟩); exact cf hq.1 hq.2)
 constructor<;>intro c23
 intro e; (try simp only[e,aj,-eq_self]); clear e
 intro e; (try simp only[e,aj,-eq_self]); clear e
 constructor<;>intro c24
 intro e; (try simp only[e,aj,-eq_self]); clear e
 intro e; (try simp only[e,aj,-eq_self]); clear e
 ·(have hcc:0<=cc/\cc<=10:=⟨Int.not_lt.1 (thm2 c2),Int.not_lt.1 (thm2 c3)⟩; have hg:=bp c0 c1 hcc; obtain rfl:=eqz c23; have hq:=gp (by omega) hg (aqP ha hb c24) (aqC ha hb c24); exact cf hq.1 hq.2)
 intro e; (try simp only[e,aj,-eq_self]); clear e
 ·(have hcc:0<=cc/\cc<=10:=⟨Int.not_lt.1 (thm2 c2),Int.not_lt.1 (thm2 c3)⟩; have hg:=bp c0 c1 hcc; obtain rfl:=eqz c23; exact absurd c24 (by simp))
 intro e; (try simp only[e,aj,-eq_self]); clear e
 intro e; (try simp only[e,aj,-eq_self]); clear e
 ·(have hcc:0<=cc/\cc<=10:=⟨Int.not_lt.1 (thm2 c2),Int.not_lt.1 (thm2 c3)⟩; have hg:=bp c0 c1 hcc; obtain rfl:cc=10:=(by have:=nez c4; have h1:=nez c5; have h2:=nez c9; have h3:=nez c11; have h4:=nez c13; have h5:=nez c15; have h6:=nez c17; have h7:=nez c19; have h8:=nez c21; have h9:=nez c23; omega); have hq:=gp (by omega) hg (apw ha hb) (apt ha hb); exact cf hq.1 hq.2)
 intro e; (try simp only[e,aj,-eq_self]); clear e
 ·exact cf (ed (.inl (by unfold jZ; rw[c0,c1]; rfl))).1 (ed (.inl (by unfold jZ; rw[c0,c1]; rfl))).2
 intro e; (try simp only[e,aj,-eq_self]); clear e
 ·exact cf (ed (.inl (by unfold jZ; rw[c0]; rfl))).1 (ed (.inl (by unfold jZ; rw[c0]; rfl))).2
theorem aiB {sp:Spec} {key:Nat} (hF:sp.F key=jC) (hP:sp.pre key=fun _=>True:=by rfl):SmOk Tryz.prog sp (rC key):=
 av (s:=rC key) hF hP (by kernel_rfl) dx (smc (lj rfl) (smc (eD rfl) (smc (ae0 rfl) (smc (nm rfl) (smc (pd rfl) (smc (pf rfl) (smc (aoL rfl) (smc (aoS rfl) (smc (aeM rfl) (smc (aeL rfl) (smc (ae6 rfl) (smc (ae5 rfl) (smc (aaS rfl) (smc (aeZ rfl) sm0)))))))))))))) Tryz.func149 fn0 aig (.inl rfl) (fun x0 gx0 x1 gx1 x2 gx2 x3 gx3 x4 gx4 x5 gx5 x6 gx6 x7 gx7 x8 gx8 hp U g=>ahM x0 gx0 ⟨x1,x2,x3,x4⟩ ⟨gx1,gx2,gx3,gx4⟩ ⟨x5,x6,x7,x8⟩ ⟨gx5,gx6,gx7,gx8⟩ U g)
structure Sc where
 ul:Int
 uh:Int
 sl:Int
 sh:Int
 v:Int
 m:Int
def Sc.r (a:Sc):Rg:=⟨a.ul,a.uh,a.sl,a.sh⟩
def Sc.k (a:Sc):Kn:=⟨a.v,a.m⟩
def sc (r:Rg) (k:Kn):Sc:=⟨r.ul,r.uh,r.sl,r.sh,k.v,k.m⟩
theorem Sc.eta_r (a:Sc):(⟨a.ul,a.uh,a.sl,a.sh⟩:Rg)=a.r:=rfl
theorem Sc.eta_k (a:Sc):(⟨a.v,a.m⟩:Kn)=a.k:=rfl
theorem Sc.eta_2 (r:Rg) (k:Kn):(⟨r.ul,r.uh,r.sl,r.sh,k.v,k.m⟩:Sc)=sc r k:=rfl
def vmay (a:Sc):Bool:=bmay a.r&&kmay a.k
def vall:Sc:=sc ball kall
def vone (v:Int):Sc:=sc (bone v) (kone v)
def vhas (a:Sc) (x:Int):Bool:=vmay a&&(bhas a.r x&&khas a.k x)
def agS (a:Sc):Bool:=vmay a&&dQ a.r
def kh (a:Sc):Int:=if vmay a=true then aB a.r else 0
def kcom (r:Rg):Kn:=lG r.ul (kU (bits .xor .u64 r.ul r.uh))
def vlo (k:Kn):Rg:=⟨k.v,bits .or .u64 k.v k.m,ball.sl,ball.sh⟩
def vs1 (a:Sc):Bool:=ig a.r (vlo a.k)
def vs2 (a:Sc):Bool:=ia a.k (kcom (kT a.r (vlo a.k)))
def vst (a:Sc):Sc:=sc (kT a.r (vlo a.k)) (ol a.k (kcom (kT a.r (vlo a.k))))
def vnok (a:Sc):Bool:=vmay a&&(vs1 a&&(vs2 a&&(vs1 (vst a)&&vs2 (vst a))))
def vnar (a:Sc):Sc:=if vnok a=true then vst (vst a) else vall
theorem vn_t {a:Sc} (h0:vmay a=true) (h1:vs1 a=true) (h2:vs2 a=true) (h3:vs1 (vst a)=true) (h4:vs2 (vst a)=true):vnar a=vst (vst a)/\vnok a=true:=by
 have h:vnok a=true:=by unfold vnok; rw[h0,h1,h2,h3,h4]; rfl
 exact⟨if_pos h,h⟩
theorem vn_f {a:Sc} (h:vmay a=false\/vs1 a=false\/vs2 a=false\/vs1 (vst a)=false\/vs2 (vst a)=false):vnar a=vall/\vnok a=false:=by
 have h:vnok a=false:=by unfold vnok; rcases h with h | h | h | h | h<;>rw[h]<;>simp
 exact⟨if_neg (by rw[h]; simp),h⟩
theorem anN (a:Sc):(if vnok a=true then vnar a else vall)=vnar a:=by
 cases h:vnok a
 ·unfold vnar; rw[h]; simp
 ·simp
def fH (a b:Sc):Sc:=if vmay a=true/\vmay b=true then vnar (sc (oR a.r b.r) (rX a.k b.k)) else vall
def bwid (x y:Rg):Rg:=⟨if(x.ul==y.ul)=false/\decide (y.ul<x.ul)=true then 0 else x.ul,if(x.uh==y.uh)=false/\decide (x.uh<y.uh)=true then 18446744073709551615 else x.uh,
 if(x.sl==y.sl)=false/\decide (y.sl<x.sl)=true then -9223372036854775808 else x.sl,if(x.sh==y.sh)=false/\decide (x.sh<y.sh)=true then 9223372036854775807 else x.sh⟩
def vwid (a b:Sc):Sc:=if vmay a=true/\vmay b=true then vnar (sc (bwid a.r b.r) (rX a.k b.k)) else vall
def vlow (a:Sc):Sc:=vnar (sc (blow a.r) (kcut a.k 32))
def vbel (t:Int):Sc:=vnar (sc ⟨0,t,ball.sl,ball.sh⟩ ⟨0,t⟩)
def vcap (r:Rg):Rg:=if r.uh<4294967296 then r else blow ball
def de (op:Int) (a b:Sc):Rg:=
 if op=8\/op=12 then blow ball
 else if op=6\/op=7 then(if agS b=true then vcap (bdo op a.r (vone (opI .and .u64 (kh b) 31)).r) else blow ball)
 else vcap (bdo op a.r b.r)
def vhf (op w:Int) (a b:Sc):Sc:=sc (de op (vlow a) (vlow b)) (kdo op w (vlow a).k (vlow b).k)
def vdo (op w:Int) (a b:Sc):Sc:=
 if okop op w=true/\vmay a=true/\vmay b=true then(if w=64 then vnar (sc (bdo op a.r b.r) (kdo op 64 a.k b.k)) else if vnok (vhf op w a b)=true then vnar (vhf op w a b) else vbel 4294967295) else vall
def vgk (cc:Int) (a b:Sc):Kn:=if cc=0 then ol a.k b.k else a.k
def vgs (cc:Int) (a b:Sc):Sc:=sc (bgiv cc a.r b.r) (vgk cc a b)
def vgok (cc:Int) (a b:Sc):Bool:=vmay a&&(vmay b&&(bgok cc a.r b.r&&((if cc=0 then ia a.k b.k else true)&&vnok (vgs cc a b))))
def vgiv (cc:Int) (a b:Sc):Sc:=if vgok cc a b=true then vnar (vgs cc a b) else vall
theorem vg_0 {cc:Int} {a b:Sc} (h0:vmay a=true) (h1:vmay b=true) (h2:bgok cc a.r b.r=true) (h3:(cc==0)=true) (h4:ia a.k b.k=true):
  vgiv cc a b=vnar (sc (bgiv cc a.r b.r) (ol a.k b.k))/\vgok cc a b=vnok (sc (bgiv cc a.r b.r) (ol a.k b.k)):=by
 obtain rfl:=eqz h3
 have e:vgok 0 a b=vnok (sc (bgiv 0 a.r b.r) (ol a.k b.k)):=by unfold vgok; rw[h0,h1,h2,if_pos rfl,h4]; rfl
 refine⟨?_,e⟩
 unfold vgiv
 rw[e]
 exact anN _
theorem vg_n {cc:Int} {a b:Sc} (h0:vmay a=true) (h1:vmay b=true) (h2:bgok cc a.r b.r=true) (h3:(cc==0)=false):
  vgiv cc a b=vnar (sc (bgiv cc a.r b.r) a.k)/\vgok cc a b=vnok (sc (bgiv cc a.r b.r) a.k):=by
 have h3:=nez h3
 have e:vgok cc a b=vnok (sc (bgiv cc a.r b.r) a.k):=by unfold vgok vgs vgk; rw[h0,h1,h2,if_neg h3,if_neg h3]; rfl
 refine⟨?_,e⟩
 unfold vgiv
 rw[e]
 unfold vgs vgk
 rw[if_neg h3]
 exact anN _
theorem vg_f {cc:Int} {a b:Sc} (h:vmay a=false\/vmay b=false\/bgok cc a.r b.r=false\/((cc==0)=true/\ia a.k b.k=false)):vgiv cc a b=vall/\vgok cc a b=false:=by
 have h:vgok cc a b=false:=by
  unfold vgok
  rcases h with h | h | h | ⟨h,h'⟩
  ·rw[h]; simp
  ·rw[h]; simp
  ·rw[h]; simp
  ·rw[if_pos (eqz h),h']; simp
 exact⟨if_neg (by rw[h]; simp),h⟩
theorem am0 {b:Bool} (h:((if b=true then(0:Int) else 2)==0)=true):b=true:=by cases b<;>simp_all
theorem ape {b:Bool} (h:((if b=true then(0:Int) else 2)==0)=false):b=false:=by cases b<;>simp_all
theorem aR {r s:Kn} (h:r=s):[Dt.z r.v,.z r.m]=[Dt.z s.v,.z s.m]:=by rw[h]
theorem apl {r:Rg} (hr:r.wf):(⟨bits .andNot .u64 r.ul (opI .sub .u64 (opI .shl .u64 1 (opI .sub .i64 64 (64-(aC (bits .xor .u64 r.ul r.uh).toNat:Int)))) 1),opI .sub .u64 (opI .shl .u64 1 (opI .sub .i64 64 (64-(aC (bits .xor .u64 r.ul r.uh).toNat:Int)))) 1⟩:Kn)=kcom r:=by
 have hx:=abG r.ul r.uh
 have hb:aC (bits .xor .u64 r.ul r.uh).toNat<=64:=eu (by omega)
 have e:opI .sub .i64 64 (64-(aC (bits .xor .u64 r.ul r.uh).toNat:Int))=(aC (bits .xor .u64 r.ul r.uh).toNat:Int):=by
  show IntKind.i64.wrap _=_
  rw[aU]; omega
 rw[e,xE hx.1 hx.2]
 rfl
theorem apm {r:Rg} (hr:r.wf) (h:decide (0<64-(aC (bits .xor .u64 r.ul r.uh).toNat:Int))=false):(⟨bits .andNot .u64 r.ul 18446744073709551615,18446744073709551615⟩:Kn)=kcom r:=by
 have h:=thm2 h
 have hx:=abG r.ul r.uh
 have hb:aC (bits .xor .u64 r.ul r.uh).toNat<=64:=eu (by omega)
 have e:kU (bits .xor .u64 r.ul r.uh)=18446744073709551615:=by
  unfold kU
  rw[show aC (bits .xor .u64 r.ul r.uh).toNat=64 by omega]
  rfl
 unfold kcom lG
 rw[e]
section
variable {op l:Int} {a b:Kn}
theorem vd (h:gW op l a b=false):kall=kdo op l a b:=by
 unfold kdo; rw[if_neg (by rw[h]; simp)]
theorem kd_a (h:kmay a=false):gW op l a b=false:=by simp[gW,h]
theorem kd_b (h:kmay b=false):gW op l a b=false:=by simp[gW,h]
theorem aqy (h:decide (op<0)=true):gW op l a b=false:=by
 have:=thm3 h
 simp[gW,gT (show¬0<=op by omega)]
theorem aqz (h:decide (12<op)=true):gW op l a b=false:=by
 have:=thm3 h
 simp[gW,gT (show¬op<=12 by omega)]
theorem kd_w (h:(l==32)=false) (h':(l==64)=false):gW op l a b=false:=by simp[gW,mg,h,h']
theorem cd (h0:kmay a=true) (h1:kmay b=true) (h2:decide (op<0)=false) (h3:decide (12<op)=false) (h4:mg l=true):gW op l a b=true/\okop op l=true:=by
 have h2:=thm2 h2
 have h3:=thm2 h3
 simp[gW,okop,h0,h1,h4,fE (show 0<=op by omega),fE (show op<=12 by omega)]
theorem aj4 (hg:gW op l a b=true/\okop op l=true) (h:(bits .or .u64 (kcut a l).m (kcut b l).m==0)=true):kone (if okop op l=true then zdo op l (kcut a l).v (kcut b l).v else 0)=kdo op l a b:=by
 unfold kdo; rw[if_pos hg.1,if_pos h,if_pos hg.2]
theorem cn {X:Kn} (hg:gW op l a b=true/\okop op l=true) (h:(bits .or .u64 (kcut a l).m (kcut b l).m==0)=false) (e:kop op l (kcut a l) (kcut b l)=X):kcut X l=kdo op l a b:=by
 unfold kdo; rw[if_pos hg.1,if_neg (by rw[h]; simp),e]
theorem aa6 (h:op=6\/op=7\/op=12) (c:(bits .and .u64 b.m (l-1)==0)=true):kop op l a b=aj3 op l a b:=by
 unfold kop; rcases h with rfl | rfl | rfl<;>simp[c]
theorem aa7 (h:op=6\/op=7\/op=12) (c:(bits .and .u64 b.m (l-1)==0)=false):kop op l a b=kall:=by
 unfold kop; rcases h with rfl | rfl | rfl<;>simp[c]
end
end Go.Proofs.YtfkhblmeioiciaaGreatDoor
