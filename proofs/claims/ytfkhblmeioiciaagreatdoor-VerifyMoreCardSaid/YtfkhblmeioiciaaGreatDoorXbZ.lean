import Derived.Test.YtfkhblmeioiciaaGreatDoorXbL
import Derived.Test.YtfkhblmeioiciaaGreatDoorKxZ
import Derived.Test.YtfkhblmeioiciaaGreatDoorProg
import Derived.Laws.Externs
set_option maxRecDepth 100000
set_option maxHeartbeats 8000000
set_option linter.defProp false
set_option linter.unusedVariables false
set_option linter.unusedSimpArgs false
namespace Go.Proofs.YtfkhblmeioiciaaGreatDoor
open Go.RowKit Go.ChangeShapes Go.WideShapes
def okop (op l:Int):Bool:=(decide (0<=op)&&decide (op<=12))&&mz l
theorem qm {x:Int} (h:0<=x/\x<=18446744073709551615):inK .u64 x=true:=by
 rw[bp];simpa[IntKind.min,IntKind.max,IntKind.signed,IntKind.bits] using h
theorem ags {x:Int} (h : -9223372036854775808<=x/\x<=9223372036854775807):inK .i64 x=true:=by
 rw[bp];simpa[IntKind.min,IntKind.max,IntKind.signed,IntKind.bits] using h
def tys_XbC:List (Nat×TI):=[(2,tiq2),
 (42,fP),
 (44,ic)]
theorem acF:(tys_XbC.all fun p=>ckTI Tryz.prog p.1 p.2)=true:=by kernel_rfl
theorem tq:(tys_XbC.all fun p=>!p.2.eqok)=true:=by kernel_rfl
theorem acl:(tys_XbC.all fun p=>!p.2.keyok)=true:=by kernel_rfl
theorem acg:∀t i,(t,i)∈tys_XbC->TIok Tryz.prog t i:=by
 intro t i h
 refine bE (cC (f:=ckTI Tryz.prog) acF h) (fun he=> ?_) (fun he=> ?_) (fun he=> ?_)
 ·have h1:=thm7.1 tq (t,i) h
  simp[he] at h1
 ·have h1:=thm7.1 tq (t,i) h
  simp[he] at h1
 ·have h1:=thm7.1 acl (t,i) h
  simp[he] at h1
def jw (key:Nat):Sm:=⟨242,key,[.one (.int .u64),.one (.int .u64),.one (.lit .u64 0)],[.one (.int .u64),.one (.int .u64)],true⟩
def ju (x:Int) (y:Int):List Dt:=[.z ((x+y) % 18446744073709551616),.z ((x+y) / 18446744073709551616)]
def gW:List Dt->List Dt
 | [.z x0,.z x1]=>ju x0 x1
 | _=>[]
theorem aiq (x:Int) (hx:inK .u64 x=true) (y:Int) (hy:inK .u64 y=true):(∀w,(callFunc 242 #[.int .u64 x,.int .u64 y,.int .u64 0]).run Tryz.prog w=.ok (.value (.tuple #[.int .u64 ((x+y) % 18446744073709551616),.int .u64 ((x+y) / 18446744073709551616)])) w)/\iI (.tuple #[.int .u64 ((x+y) % 18446744073709551616),.int .u64 ((x+y) / 18446744073709551616)])=true:=by
 have gx:=cy hx
 have gy:=cy hy
 refine⟨fun w=> ?_,?_⟩
 ·rw[run_callFunc_extern Tryz.func242 (by kernel_rfl) (by kernel_rfl) (by kernel_rfl) (e:=add64Entry) (by kernel_rfl),run_add64 x y 0 gx.1 gy.1 (by omega) (by omega)]
  simp only[Result.andThen,Int.add_zero]
 ·have h1:inK .u64 ((x+y) % 18446744073709551616)=true:=qm (by omega)
  have h2:inK .u64 ((x+y) / 18446744073709551616)=true:=qm (by omega)
  simp[iI,gD,gN,h1,h2]
theorem ajf {sp:Spec} {key:Nat} (hF:sp.F key=gW):SmOk Tryz.prog sp (jw key):=by
 refine SmOk.pure hF rfl rfl fun xs vals w h=> ?_
 obtain⟨_,_,_,rfl,⟨x0,rfl,rfl,gx0⟩,h⟩:=h
 obtain⟨_,_,_,rfl,⟨x1,rfl,rfl,gx1⟩,h⟩:=h
 obtain⟨_,_,_,rfl,⟨rfl,rfl⟩,h⟩:=h
 obtain⟨rfl,rfl⟩:=h
 have q:=aiq x0 gx0 x1 gx1
 refine⟨_,.inl (q.1 w),?_,fun U v0 nid j he=> ?_⟩
 ·have q2:=q.2
  simp[iI,gD,gN] at q2
  simp[jw,gW,ju,List.flatMap_cons,List.flatMap_nil,Sh.cks,List.append_nil,List.cons_append,List.nil_append,b2i_one,fc,q2]
 ·simp only[jw,gW,ju,List.flatMap_cons,List.flatMap_nil,Sh.cks,List.append_nil,List.cons_append,List.nil_append,b2i_one,eqs,dI,dB,bK,lS,bn,Nat.add_zero,Nat.reduceAdd,and_true] at he
  simp[jw,gW,ju,List.flatMap_cons,List.flatMap_nil,Sh.cks,List.append_nil,List.cons_append,List.nil_append,b2i_one,eZ,bk,aE,V.den,C.den,denL,den0,bD,E.I,E.B,he]
def uN (key:Nat):Sm:=⟨222,key,[.one (.int .u64)],[.one (.int .i64)],false⟩
def uu (x:Int):List Dt:=[.z ((aC x.toNat:Int))]
def pw:List Dt->List Dt
 | [.z x0]=>uu x0
 | _=>[]
theorem apy (x:Int) (hx:inK .u64 x=true):(∀w,Calls Tryz.prog 222 #[.int .u64 x] w fun e w'=>e=.returned (.int .i64 ((aC x.toNat:Int)))/\Ext w w')/\iI (.int .i64 ((aC x.toNat:Int)))=true:=by
 have g:=cy hx
 have hb:aC x.toNat<=64:=eJ (by omega)
 have h:inK .i64 (aC x.toNat:Int)=true:=ags (by omega)
 exact⟨fun w=>are x g.1 g.2 w w (Ext.refl w),h⟩
theorem aqc {sp:Spec} {key:Nat} (hF:sp.F key=pw):SmOk Tryz.prog sp (uN key):=by
 refine SmOk.pure hF rfl rfl fun xs vals w h=> ?_
 obtain⟨_,_,_,rfl,⟨x0,rfl,rfl,gx0⟩,h⟩:=h
 obtain⟨rfl,rfl⟩:=h
 have q:=apy x0 gx0
 refine⟨_,.inr ⟨dd Tryz.func222 (by kernel_rfl) (by kernel_rfl) _ w,q.1 w⟩,?_,fun U v0 nid j he=> ?_⟩
 ·have q2:=q.2
  simp[iI,gD,gN] at q2
  simp[uN,pw,uu,List.flatMap_cons,List.flatMap_nil,Sh.cks,List.append_nil,List.cons_append,List.nil_append,b2i_one,fc,q2]
 ·simp only[uN,pw,uu,List.flatMap_cons,List.flatMap_nil,Sh.cks,List.append_nil,List.cons_append,List.nil_append,b2i_one,eqs,dI,dB,bK,lS,bn,Nat.add_zero,Nat.reduceAdd,and_true] at he
  simp[uN,pw,uu,List.flatMap_cons,List.flatMap_nil,Sh.cks,List.append_nil,List.cons_append,List.nil_append,b2i_one,eZ,bk,aE,V.den,C.den,denL,den0,bD,E.I,E.B,he]
def aa8 (key:Nat):Sm:=⟨224,key,[.one (.int .u64)],[.one (.int .i64)],false⟩
def aa6 (x:Int):List Dt:=[.z (64-(aC x.toNat:Int))]
def uU:List Dt->List Dt
 | [.z x0]=>aa6 x0
 | _=>[]
theorem arH (x:Int) (hx:inK .u64 x=true):(∀w,Calls Tryz.prog 224 #[.int .u64 x] w fun e w'=>e=.returned (.int .i64 (64-(aC x.toNat:Int)))/\Ext w w')/\iI (.int .i64 (64-(aC x.toNat:Int)))=true:=by
 have g:=cy hx
 have hb:aC x.toNat<=64:=eJ (by omega)
 have h:inK .i64 (64-(aC x.toNat:Int))=true:=ags (by omega)
 exact⟨fun w=>b_lz x g.1 g.2 w w (Ext.refl w),h⟩
theorem aqb {sp:Spec} {key:Nat} (hF:sp.F key=uU):SmOk Tryz.prog sp (aa8 key):=by
 refine SmOk.pure hF rfl rfl fun xs vals w h=> ?_
 obtain⟨_,_,_,rfl,⟨x0,rfl,rfl,gx0⟩,h⟩:=h
 obtain⟨rfl,rfl⟩:=h
 have q:=arH x0 gx0
 refine⟨_,.inr ⟨dd Tryz.func224 (by kernel_rfl) (by kernel_rfl) _ w,q.1 w⟩,?_,fun U v0 nid j he=> ?_⟩
 ·have q2:=q.2
  simp[iI,gD,gN] at q2
  simp[aa8,uU,aa6,List.flatMap_cons,List.flatMap_nil,Sh.cks,List.append_nil,List.cons_append,List.nil_append,b2i_one,fc,q2]
 ·simp only[aa8,uU,aa6,List.flatMap_cons,List.flatMap_nil,Sh.cks,List.append_nil,List.cons_append,List.nil_append,b2i_one,eqs,dI,dB,bK,lS,bn,Nat.add_zero,Nat.reduceAdd,and_true] at he
  simp[aa8,uU,aa6,List.flatMap_cons,List.flatMap_nil,Sh.cks,List.append_nil,List.cons_append,List.nil_append,b2i_one,eZ,bk,aE,V.den,C.den,denL,den0,bD,E.I,E.B,he]
def ae2 (key:Nat):Sm:=⟨223,key,[.agg kRg,.agg kRg,.one .bool],[.agg kRg],false⟩
def adZ (a:Rg) (b:Rg) (t:Bool):List Dt:=[.z ((xsum t a b).ul),.z ((xsum t a b).uh),.z ((xsum t a b).sl),.z ((xsum t a b).sh)]
def uS:List Dt->List Dt
 | [.z x0,.z x1,.z x2,.z x3,.z x4,.z x5,.z x6,.z x7,.z x8]=>adZ ⟨x0,x1,x2,x3⟩ ⟨x4,x5,x6,x7⟩ (x8==1)
 | _=>[]
def zsh5:Tr:=(.leaf (.cons (.bin .add .u64 (.var 0) (.var 4)) (.cons (.var 13) (.vs 11 2 .nil))))
def zsh4:Tr:=(.leaf (.cons (.bin .sub .u64 (.var 0) (.var 5)) (.cons (.bin .sub .u64 (.var 1) (.var 4)) (.vs 11 2 .nil))))
def sT_sum:Tr:=
(.call 0 (kRg) .nil 9
(.br (.bw 8)
(.br (.lt (.var 0) (.var 5))
(.call 3 [.int .i64,.bool] (.cons (.var 2) (.cons (.var 7) .nil)) 13
(.call 3 [.int .i64,.bool] (.cons (.var 3) (.cons (.var 6) .nil)) 15
(.br (.bw 14)
(.br (.bw 16)
(.leaf (.vs 9 2 (.cons (.var 13) (.cons (.var 15) .nil))))
(.leaf (.vs 9 4 .nil)))
(.leaf (.vs 9 4 .nil)))))
(.call 3 [.int .i64,.bool] (.cons (.var 2) (.cons (.var 7) .nil)) 13
(.call 3 [.int .i64,.bool] (.cons (.var 3) (.cons (.var 6) .nil)) 15
(.br (.bw 14)
(.br (.bw 16)
(.leaf (.cons (.bin .sub .u64 (.var 0) (.var 5)) (.cons (.bin .sub .u64 (.var 1) (.var 4)) (.cons (.var 13) (.cons (.var 15) .nil)))))
 zsh4)
 zsh4))))
(.call 1 [.int .u64,.int .u64] (.cons (.var 1) (.cons (.var 5) .nil)) 13
(.br (.eq (.var 14) (.lit 0))
(.call 2 [.int .i64,.bool] (.cons (.var 2) (.cons (.var 6) .nil)) 15
(.call 2 [.int .i64,.bool] (.cons (.var 3) (.cons (.var 7) .nil)) 17
(.br (.bw 16)
(.br (.bw 18)
(.leaf (.cons (.bin .add .u64 (.var 0) (.var 4)) (.cons (.var 13) (.cons (.var 15) (.cons (.var 17) .nil)))))
 zsh5)
 zsh5)))
(.call 2 [.int .i64,.bool] (.cons (.var 2) (.cons (.var 6) .nil)) 15
(.call 2 [.int .i64,.bool] (.cons (.var 3) (.cons (.var 7) .nil)) 17
(.br (.bw 16)
(.br (.bw 18)
(.leaf (.vs 9 2 (.cons (.var 15) (.cons (.var 17) .nil))))
(.leaf (.vs 9 4 .nil)))
(.leaf (.vs 9 4 .nil)))))))))
def aki:Spec:={F:=fun k=>match k with | 0=>bv | 1=>gW | 2=>nP | 3=>jL | _=>fun _=>[],pre:=fun _ _=>True}
theorem apO:ap tys_XbC [dH 0,jw 1,xj 2,rJ 3] [] [] [] 200 Tryz.f223 [.agg kRg,.agg kRg,.one .bool] [.agg kRg] false [.int .u64,.int .u64,.int .i64,.int .i64,.int .u64,.int .u64,.int .i64,.int .i64,.bool] sT_sum:=⟨by kernel_rfl,by kernel_rfl,by kernel_rfl⟩
def ai:=And.intro Pi.eta (And.intro Pu.eta (Rg.eta))
theorem aps (a:Rg) (ha:Rg.ok a) (b:Rg) (hb:Rg.ok b) (t:Bool) (U:Env) (g:varsD U 0 [.int .u64,.int .u64,.int .i64,.int .i64,.int .u64,.int .u64,.int .i64,.int .i64,.bool]=[.z a.ul,.z a.uh,.z a.sl,.z a.sh,.z b.ul,.z b.uh,.z b.sl,.z b.sh,.z (b2i t)]):sT_sum.asks aki (fun U e=>e.D U=uS [.z a.ul,.z a.uh,.z a.sl,.z a.sh,.z b.ul,.z b.uh,.z b.sl,.z b.sh,.z (b2i t)]) U fun _ _=>False:=by
 simp only[varsD,varD,thm5,gS0,Nat.reduceAdd,and_true] at g
 simp only[sT_sum,zsh4,zsh5,aki,kRg,bv,gW,nP,jL,ju,wJ,qU,uS,adZ,simQ,af,S1,Nat.reduceSub,Nat.reduceAdd,-eq_self,ai,g]
 intro e;(try simp only[e,ai,-eq_self]);clear e
 constructor<;>intro c0
 constructor<;>intro c1
 intro e;(try simp only[e,ai,-eq_self]);clear e
 intro e;(try simp only[e,ai,-eq_self]);clear e
 constructor<;>intro c2
 constructor<;>intro c3
 ·(subst c0;exact agg4 (pZ c1).1 (pZ c1).2 (aaG c2 c3).1 (aaG c2 c3).2)
 ·(subst c0;exact agg4 (pZ c1).1 (pZ c1).2 (lQ (.inr c3)).1 (lQ (.inr c3)).2)
 ·(subst c0;exact agg4 (pZ c1).1 (pZ c1).2 (lQ (.inl c2)).1 (lQ (.inl c2)).2)
 intro e;(try simp only[e,ai,-eq_self]);clear e
 intro e;(try simp only[e,ai,-eq_self]);clear e
 constructor<;>intro c4
 constructor<;>intro c5
 ·(subst c0;exact agg4 (pY c1).1 (pY c1).2 (aaG c4 c5).1 (aaG c4 c5).2)
 ·(subst c0;exact agg4 (pY c1).1 (pY c1).2 (lQ (.inr c5)).1 (lQ (.inr c5)).2)
 ·(subst c0;exact agg4 (pY c1).1 (pY c1).2 (lQ (.inl c4)).1 (lQ (.inl c4)).2)
 intro e;(try simp only[e,ai,-eq_self]);clear e
 constructor<;>intro c6
 intro e;(try simp only[e,ai,-eq_self]);clear e
 intro e;(try simp only[e,ai,-eq_self]);clear e
 constructor<;>intro c7
 constructor<;>intro c8
 ·(subst c0;exact agg4 (pf ha hb c6).1 (pf ha hb c6).2 (yF c7 c8).1 (yF c7 c8).2)
 ·(subst c0;exact agg4 (pf ha hb c6).1 (pf ha hb c6).2 (lz (.inr c8)).1 (lz (.inr c8)).2)
 ·(subst c0;exact agg4 (pf ha hb c6).1 (pf ha hb c6).2 (lz (.inl c7)).1 (lz (.inl c7)).2)
 intro e;(try simp only[e,ai,-eq_self]);clear e
 intro e;(try simp only[e,ai,-eq_self]);clear e
 constructor<;>intro c9
 constructor<;>intro c10
 ·(subst c0;exact agg4 (pg ha hb c6).1 (pg ha hb c6).2 (yF c9 c10).1 (yF c9 c10).2)
 ·(subst c0;exact agg4 (pg ha hb c6).1 (pg ha hb c6).2 (lz (.inr c10)).1 (lz (.inr c10)).2)
 ·(subst c0;exact agg4 (pg ha hb c6).1 (pg ha hb c6).2 (lz (.inl c9)).1 (lz (.inl c9)).2)
theorem su:Tryz.prog.follows .mixedOrders=true:=by kernel_rfl
theorem ap9 {sp:Spec} {key:Nat} (hF:sp.F key=uS) (hP:sp.pre key=fun _=>True:=by rfl):SmOk Tryz.prog sp (ae2 key):=
 au (s:=ae2 key) hF hP su acg (smc (eU rfl) (smc (ajf rfl) (smc (anN rfl) (smc (ai8 rfl) sm0)))) Tryz.func223 fn0 apO (.inl rfl) (fun x0 gx0 x1 gx1 x2 gx2 x3 gx3 x4 gx4 x5 gx5 x6 gx6 x7 gx7 x8 hp U g=>aps ⟨x0,x1,x2,x3⟩ ⟨gx0,gx1,gx2,gx3⟩ ⟨x4,x5,x6,x7⟩ ⟨gx4,gx5,gx6,gx7⟩ x8 U g)
def tys_XbD:List (Nat×TI):=[(2,tiq2),
 (3,tiq3),
 (37,ig),
 (42,fP),
 (44,ic),
 (105,yC)]
theorem acE:(tys_XbD.all fun p=>ckTI Tryz.prog p.1 p.2)=true:=by kernel_rfl
theorem tp:(tys_XbD.all fun p=>!p.2.eqok)=true:=by kernel_rfl
theorem ack:(tys_XbD.all fun p=>!p.2.keyok)=true:=by kernel_rfl
theorem acf:∀t i,(t,i)∈tys_XbD->TIok Tryz.prog t i:=by
 intro t i h
 refine bE (cC (f:=ckTI Tryz.prog) acE h) (fun he=> ?_) (fun he=> ?_) (fun he=> ?_)
 ·have h1:=thm7.1 tp (t,i) h
  simp[he] at h1
 ·have h1:=thm7.1 tp (t,i) h
  simp[he] at h1
 ·have h1:=thm7.1 ack (t,i) h
  simp[he] at h1
def aiT (key:Nat):Sm:=⟨188,key,[.one (.int .i8),.agg kRg,.agg kRg],[.agg kRg],false⟩
def air (op:Int) (a:Rg) (b:Rg):List Dt:=[.z ((bdo op a b).ul),.z ((bdo op a b).uh),.z ((bdo op a b).sl),.z ((bdo op a b).sh)]
def xA:List Dt->List Dt
 | [.z x0,.z x1,.z x2,.z x3,.z x4,.z x5,.z x6,.z x7,.z x8]=>air x0 ⟨x1,x2,x3,x4⟩ ⟨x5,x6,x7,x8⟩
 | _=>[]
def zsh9:Tr:=(.call 6 (kRg) (.vs 11 4 .nil) 18
(.leaf (.vs 18 4 .nil)))
def zsh8:E:=(.cons (.bin .sub .u64 (.bin .shl .u64 (.lit 1) (.var 17)) (.lit 1)) (.vs 13 2 .nil))
def zsh7:Tr:=(.call 6 (kRg) (.cons (.var 11) (.cons (.var 2) (.vs 13 2 .nil))) 18
(.leaf (.vs 18 4 .nil)))
def zsh6:Tr:=(.call 5 (kRg) (.vs 1 8 (.cb (.eq (.var 0) (.lit 1)) .nil)) 18
(.call 6 (kRg) (.vs 18 4 .nil) 22
(.leaf (.vs 22 4 .nil))))
def sT_do:Tr:=
(.call 0 [.bool] (.vs 1 4 .nil) 9
(.br (.bw 9)
(.call 0 [.bool] (.vs 5 4 .nil) 10
(.br (.bw 10)
(.call 1 (kRg) .nil 11
(.call 2 [.int .u64,.bool] (.vs 5 4 .nil) 15
(.call 3 [.int .i64] (.cons (.mx (.var 2) (.var 6)) .nil) 17
(.br (.lt (.var 17) (.lit 0))
.panic
(.br (.eq (.var 0) (.lit 11))
(.call 6 (kRg) (.vs 5 4 .nil) 18
(.leaf (.vs 18 4 .nil)))
(.br (.eq (.var 0) (.lit 0))
 zsh6
(.br (.eq (.var 0) (.lit 1))
 zsh6
(.br (.eq (.var 0) (.lit 5))
(.call 6 (kRg) (.cons (.var 11) (.cons (.mn (.var 2) (.var 6)) (.vs 13 2 .nil))) 18
(.leaf (.vs 18 4 .nil)))
(.br (.eq (.var 0) (.lit 4))
(.call 6 (kRg) (.cons (.mx (.var 1) (.var 5)) zsh8) 18
(.leaf (.vs 18 4 .nil)))
(.br (.eq (.var 0) (.lit 10))
(.call 6 (kRg) (.cons (.var 11) zsh8) 18
(.leaf (.vs 18 4 .nil)))
(.br (.eq (.var 0) (.lit 3))
(.br (.lt (.lit 0) (.var 5))
(.br (.eq (.var 6) (.lit 0))
.panic
(.br (.eq (.var 5) (.lit 0))
.panic
(.call 6 (kRg) (.cons (.bin .quo .u64 (.var 1) (.var 6)) (.cons (.bin .quo .u64 (.var 2) (.var 5)) (.vs 13 2 .nil))) 18
(.leaf (.vs 18 4 .nil)))))
 zsh7)
(.br (.eq (.var 0) (.lit 9))
(.br (.lt (.lit 0) (.var 5))
(.call 6 (kRg) (.cons (.var 11) (.cons (.mn (.var 2) (.bin .sub .u64 (.var 6) (.lit 1))) (.vs 13 2 .nil))) 18
(.leaf (.vs 18 4 .nil)))
 zsh7)
(.br (.eq (.var 0) (.lit 7))
(.br (.bw 16)
(.call 6 (kRg) (.cons (.bin .shr .u64 (.var 1) (.bin .and .u64 (.var 15) (.lit 63))) (.cons (.bin .shr .u64 (.var 2) (.bin .and .u64 (.var 15) (.lit 63))) (.vs 13 2 .nil))) 18
(.leaf (.vs 18 4 .nil)))
 zsh9)
(.br (.eq (.var 0) (.lit 6))
(.br (.bw 16)
(.call 4 [.int .i64] (.cons (.var 2) .nil) 18
(.br (.lt (.var 18) (.conv .i64 (.bin .and .u64 (.var 15) (.lit 63))))
(.call 6 (kRg) (.vs 11 4 .nil) 19
(.leaf (.vs 19 4 .nil)))
(.call 6 (kRg) (.cons (.bin .shl .u64 (.var 1) (.bin .and .u64 (.var 15) (.lit 63))) (.cons (.bin .shl .u64 (.var 2) (.bin .and .u64 (.var 15) (.lit 63))) (.vs 13 2 .nil))) 19
(.leaf (.vs 19 4 .nil)))))
 zsh9)
 zsh9))))))))))))))
(.call 1 (kRg) .nil 11
(.leaf (.vs 11 4 .nil)))))
(.call 1 (kRg) .nil 10
(.leaf (.vs 10 4 .nil)))))
def ap4:Spec:={F:=fun k=>match k with | 0=>cF | 1=>bv | 2=>cE | 3=>pw | 4=>uU | 5=>uS | 6=>iU | _=>fun _=>[],pre:=fun _ _=>True}
theorem arL:ap tys_XbD [ir 0,dH 1,ge 2,uN 3,aa8 4,ae2 5,rI 6] [] [] [] 200 Tryz.f188 [.one (.int .i8),.agg kRg,.agg kRg] [.agg kRg] false [.int .i8,.int .u64,.int .u64,.int .i64,.int .i64,.int .u64,.int .u64,.int .i64,.int .i64] sT_do:=⟨by kernel_rfl,by kernel_rfl,by kernel_rfl⟩
theorem arI (op:Int) (hop:inK .i8 op=true) (a:Rg) (ha:Rg.ok a) (b:Rg) (hb:Rg.ok b) (U:Env) (g:varsD U 0 [.int .i8,.int .u64,.int .u64,.int .i64,.int .i64,.int .u64,.int .u64,.int .i64,.int .i64]=[.z op,.z a.ul,.z a.uh,.z a.sl,.z a.sh,.z b.ul,.z b.uh,.z b.sl,.z b.sh]):sT_do.asks ap4 (fun U e=>e.D U=xA [.z op,.z a.ul,.z a.uh,.z a.sl,.z a.sh,.z b.ul,.z b.uh,.z b.sl,.z b.sh]) U fun _ _=>False:=by
 simp only[varsD,varD,thm5,gS0,Nat.reduceAdd,and_true] at g
 simp only[sT_do,zsh6,zsh7,zsh8,zsh9,ap4,kRg,cF,bv,cE,pw,uU,uS,iU,iq,fX,uu,aa6,adZ,qT,xA,air,simQ,af,S1,Nat.reduceSub,Nat.reduceAdd,-eq_self,ai,g]
 intro e;(try simp only[e,ai,-eq_self]);clear e
 constructor<;>intro c0
 intro e;(try simp only[e,ai,-eq_self]);clear e
 constructor<;>intro c1
 intro e;(try simp only[e,ai,-eq_self]);clear e
 intro e;(try simp only[e,ai,-eq_self]);clear e
 intro e;(try simp only[e,ai,-eq_self]);clear e
 constructor<;>intro c2
 ·exact absurd (thm3 c2) (by omega)
 constructor<;>intro c3
 intro e;(try simp only[e,ai,-eq_self]);clear e
 ·exact cR (asx ha hb c0 c1 c3)
 constructor<;>intro c4
 intro e;(try simp only[e,ai,-eq_self]);clear e
 intro e;(try simp only[e,ai,-eq_self]);clear e
 ·exact cR (dq_0 ha hb c0 c1 c4)
 constructor<;>intro c5
 intro e;(try simp only[e,ai,-eq_self]);clear e
 intro e;(try simp only[e,ai,-eq_self]);clear e
 ·exact cR (dq_1 ha hb c0 c1 c5)
 constructor<;>intro c6
 intro e;(try simp only[e,ai,-eq_self]);clear e
 ·exact cR (dq_5 ha hb c0 c1 c6)
 constructor<;>intro c7
 intro e;(try simp only[e,ai,-eq_self]);clear e
 ·exact cR (dq_4 ha hb c0 c1 c7)
 constructor<;>intro c8
 intro e;(try simp only[e,ai,-eq_self]);clear e
 ·exact cR (asy ha hb c0 c1 c8)
 constructor<;>intro c9
 constructor<;>intro c10
 constructor<;>intro c11
 ·(have hm:=(er b).1 c1;have h1:=thm3 c10;have h2:=eqz c11;omega)
 constructor<;>intro c12
 ·(have hm:=(er b).1 c1;have h1:=thm3 c10;have h2:=eqz c12;omega)
 intro e;(try simp only[e,ai,-eq_self]);clear e
 ·exact cR (dq_3 ha hb c0 c1 c9 c10)
 intro e;(try simp only[e,ai,-eq_self]);clear e
 ·exact cR (asw ha hb c0 c1 c9 c10)
 constructor<;>intro c13
 constructor<;>intro c14
 intro e;(try simp only[e,ai,-eq_self]);clear e
 ·exact cR (dq_9 ha hb c0 c1 c13 c14)
 intro e;(try simp only[e,ai,-eq_self]);clear e
 ·exact cR (ass ha hb c0 c1 c13 c14)
 constructor<;>intro c15
 constructor<;>intro c16
 intro e;(try simp only[e,ai,-eq_self]);clear e
 ·exact cR (dq_7 ha hb c0 c1 c15 c16)
 intro e;(try simp only[e,ai,-eq_self]);clear e
 ·exact cR (ast ha hb c0 c1 c15 c16)
 constructor<;>intro c17
 constructor<;>intro c18
 intro e;(try simp only[e,ai,-eq_self]);clear e
 constructor<;>intro c19
 intro e;(try simp only[e,ai,-eq_self]);clear e
 ·exact cR (asu ha hb c0 c1 c17 c18 c19)
 intro e;(try simp only[e,ai,-eq_self]);clear e
 ·exact cR (dq_6 ha hb c0 c1 c17 c18 c19)
 intro e;(try simp only[e,ai,-eq_self]);clear e
 ·exact cR (asv ha hb c0 c1 c17 c18)
 intro e;(try simp only[e,ai,-eq_self]);clear e
 ·exact cR (dq_x ha hb c0 c1 c3 c4 c5 c6 c7 c8 c9 c13 c15 c17)
 intro e;(try simp only[e,ai,-eq_self]);clear e
 ·exact cR (akY (.inr c1))
 intro e;(try simp only[e,ai,-eq_self]);clear e
 ·exact cR (akY (.inl c0))
theorem aqi {sp:Spec} {key:Nat} (hF:sp.F key=xA) (hP:sp.pre key=fun _=>True:=by rfl):SmOk Tryz.prog sp (aiT key):=
 au (s:=aiT key) hF hP su acf (smc (lE rfl) (smc (eU rfl) (smc (nC rfl) (smc (aqc rfl) (smc (aqb rfl) (smc (ap9 rfl) (smc (afo rfl) sm0))))))) Tryz.func188 fn0 arL (.inl rfl) (fun x0 gx0 x1 gx1 x2 gx2 x3 gx3 x4 gx4 x5 gx5 x6 gx6 x7 gx7 x8 gx8 hp U g=>arI x0 gx0 ⟨x1,x2,x3,x4⟩ ⟨gx1,gx2,gx3,gx4⟩ ⟨x5,x6,x7,x8⟩ ⟨gx5,gx6,gx7,gx8⟩ U g)
set_option linter.unusedSectionVars false
open Go
section
variable {a b:Rg} (ha:a.ok) (hb:b.ok)
include ha hb
theorem asa (h:(!(((2:Int)==2)&&(b.ul==18446744073709551615)))=false):bcan 2 a b=false:=by
 have h2:b.ul=18446744073709551615:=by simpa using h
 simp[bcan,h2]
theorem asi (h:(!(((2:Int)==2)&&(b.ul==18446744073709551615)))=true):bcan 2 a b=true:=by
 have h2:b.ul≠18446744073709551615:=by simpa using h
 simp[bcan,h2]
theorem ar5 (h:(!(((2:Int)==2)&&(b.ul==18446744073709551615)))=true):(⟨if((2:Int)==2)=true/\(b.ul==18446744073709551615)=true then a.ul else max a.ul (if((2:Int)==2)=true then IntKind.u64.wrap (b.ul+1) else b.ul),a.uh,a.sl,a.sh⟩:Rg)=brng 2 a b:=by
 have h2:b.ul≠18446744073709551615:=by simpa using h
 have wa:=Rg.wf_of ha
 have wb:=Rg.wf_of hb
 obtain⟨⟨a0,a1⟩,⟨a2,a3⟩,⟨a4,a5⟩,a6,a7⟩:=wa
 obtain⟨⟨b0,b1⟩,⟨b2,b3⟩,⟨b4,b5⟩,b6,b7⟩:=wb
 have h3:IntKind.u64.wrap (b.ul+1)=b.ul+1:=by rw[bg];omega
 simp[brng,Rg.ext_iff,h2,h3]
theorem ash (h:(!(((3:Int)==2)&&(b.ul==18446744073709551615)))=true):bcan 3 a b=true:=by simp[bcan]
theorem ar4 (h:(!(((3:Int)==2)&&(b.ul==18446744073709551615)))=true):(⟨if((3:Int)==2)=true/\(b.ul==18446744073709551615)=true then a.ul else max a.ul (if((3:Int)==2)=true then IntKind.u64.wrap (b.ul+1) else b.ul),a.uh,a.sl,a.sh⟩:Rg)=brng 3 a b:=by simp[brng,Rg.ext_iff]
theorem ar9 (h:(!(((4:Int)==4)&&(b.uh==0)))=false):bcan 4 a b=false:=by
 have h2:b.uh=0:=by simpa using h
 simp[bcan,h2]
theorem asg (h:(!(((4:Int)==4)&&(b.uh==0)))=true):bcan 4 a b=true:=by
 have h2:b.uh≠0:=by simpa using h
 simp[bcan,h2]
theorem ar3 (h:(!(((4:Int)==4)&&(b.uh==0)))=true):(⟨a.ul,if((4:Int)==4)=true/\(b.uh==0)=true then a.uh else min a.uh (if((4:Int)==4)=true then IntKind.u64.wrap (b.uh-1) else b.uh),a.sl,a.sh⟩:Rg)=brng 4 a b:=by
 have h2:b.uh≠0:=by simpa using h
 have wa:=Rg.wf_of ha
 have wb:=Rg.wf_of hb
 obtain⟨⟨a0,a1⟩,⟨a2,a3⟩,⟨a4,a5⟩,a6,a7⟩:=wa
 obtain⟨⟨b0,b1⟩,⟨b2,b3⟩,⟨b4,b5⟩,b6,b7⟩:=wb
 have h3:IntKind.u64.wrap (b.uh-1)=b.uh-1:=by rw[bg];omega
 simp[brng,Rg.ext_iff,h2,h3]
theorem asf (h:(!(((5:Int)==4)&&(b.uh==0)))=true):bcan 5 a b=true:=by simp[bcan]
theorem ar2 (h:(!(((5:Int)==4)&&(b.uh==0)))=true):(⟨a.ul,if((5:Int)==4)=true/\(b.uh==0)=true then a.uh else min a.uh (if((5:Int)==4)=true then IntKind.u64.wrap (b.uh-1) else b.uh),a.sl,a.sh⟩:Rg)=brng 5 a b:=by simp[brng,Rg.ext_iff]
theorem ar8 (h:(!(((6:Int)==6)&&(b.sl==9223372036854775807)))=false):bcan 6 a b=false:=by
 have h2:b.sl=9223372036854775807:=by simpa using h
 simp[bcan,h2]
theorem ase (h:(!(((6:Int)==6)&&(b.sl==9223372036854775807)))=true):bcan 6 a b=true:=by
 have h2:b.sl≠9223372036854775807:=by simpa using h
 simp[bcan,h2]
theorem ar1 (h:(!(((6:Int)==6)&&(b.sl==9223372036854775807)))=true):(⟨a.ul,a.uh,if((6:Int)==6)=true/\(b.sl==9223372036854775807)=true then a.sl else max a.sl (if((6:Int)==6)=true then IntKind.i64.wrap (b.sl+1) else b.sl),a.sh⟩:Rg)=brng 6 a b:=by
 have h2:b.sl≠9223372036854775807:=by simpa using h
 have wa:=Rg.wf_of ha
 have wb:=Rg.wf_of hb
 obtain⟨⟨a0,a1⟩,⟨a2,a3⟩,⟨a4,a5⟩,a6,a7⟩:=wa
 obtain⟨⟨b0,b1⟩,⟨b2,b3⟩,⟨b4,b5⟩,b6,b7⟩:=wb
 have h3:IntKind.i64.wrap (b.sl+1)=b.sl+1:=by rw[aR];omega
 simp[brng,Rg.ext_iff,h2,h3]
theorem asd (h:(!(((7:Int)==6)&&(b.sl==9223372036854775807)))=true):bcan 7 a b=true:=by simp[bcan]
theorem ar0 (h:(!(((7:Int)==6)&&(b.sl==9223372036854775807)))=true):(⟨a.ul,a.uh,if((7:Int)==6)=true/\(b.sl==9223372036854775807)=true then a.sl else max a.sl (if((7:Int)==6)=true then IntKind.i64.wrap (b.sl+1) else b.sl),a.sh⟩:Rg)=brng 7 a b:=by simp[brng,Rg.ext_iff]
theorem ar7 (h:(!(((8:Int)==8)&&(b.sh==(-9223372036854775808))))=false):bcan 8 a b=false:=by
 have h2:b.sh=(-9223372036854775808):=by simpa using h
 simp[bcan,h2]
theorem asc (h:(!(((8:Int)==8)&&(b.sh==(-9223372036854775808))))=true):bcan 8 a b=true:=by
 have h2:b.sh≠(-9223372036854775808):=by simpa using h
 simp[bcan,h2]
theorem arZ (h:(!(((8:Int)==8)&&(b.sh==(-9223372036854775808))))=true):(⟨a.ul,a.uh,a.sl,if((8:Int)==8)=true/\(b.sh==(-9223372036854775808))=true then a.sh else min a.sh (if((8:Int)==8)=true then IntKind.i64.wrap (b.sh-1) else b.sh)⟩:Rg)=brng 8 a b:=by
 have h2:b.sh≠(-9223372036854775808):=by simpa using h
 have wa:=Rg.wf_of ha
 have wb:=Rg.wf_of hb
 obtain⟨⟨a0,a1⟩,⟨a2,a3⟩,⟨a4,a5⟩,a6,a7⟩:=wa
 obtain⟨⟨b0,b1⟩,⟨b2,b3⟩,⟨b4,b5⟩,b6,b7⟩:=wb
 have h3:IntKind.i64.wrap (b.sh-1)=b.sh-1:=by rw[aR];omega
 simp[brng,Rg.ext_iff,h2,h3]
theorem asb (h:(!(((9:Int)==8)&&(b.sh==(-9223372036854775808))))=true):bcan 9 a b=true:=by simp[bcan]
theorem arY (h:(!(((9:Int)==8)&&(b.sh==(-9223372036854775808))))=true):(⟨a.ul,a.uh,a.sl,if((9:Int)==8)=true/\(b.sh==(-9223372036854775808))=true then a.sh else min a.sh (if((9:Int)==8)=true then IntKind.i64.wrap (b.sh-1) else b.sh)⟩:Rg)=brng 9 a b:=by simp[brng,Rg.ext_iff]
theorem aqQ:bcan 10 a b=true:=by simp[bcan]
theorem aqN:a=brng 10 a b:=by simp[brng]
theorem aqP (h:dV b=false):bcan 1 a b=true:=by simp[bcan,h]
theorem aqM (h:dV b=false):a=brng 1 a b:=by simp[brng,h]
theorem aqO (h:dV b=true) (hu:(!((a.ul==aB b)&&(a.uh==aB b)))=false\/(!((a.sl==IntKind.i64.wrap (aB b))&&(a.sh==IntKind.i64.wrap (aB b))))=false):bcan 1 a b=false:=by
 have hs:aB b=b.ul:=by unfold aB;rw[h];simp
 have ht:IntKind.i64.wrap b.ul=s64 b.ul:=(cd _).symm
 rw[hs,ht] at hu
 simp only[bcan,h,if_true]
 rcases hu with hu | hu
 ·simp at hu;simp[hu]
 ·simp at hu;simp[hu]
theorem asj (h:dV b=true) (hu:(!((a.ul==aB b)&&(a.uh==aB b)))=true) (hv:(!((a.sl==IntKind.i64.wrap (aB b))&&(a.sh==IntKind.i64.wrap (aB b))))=true):bcan 1 a b=true:=by
 have hs:aB b=b.ul:=by unfold aB;rw[h];simp
 have ht:IntKind.i64.wrap b.ul=s64 b.ul:=(cd _).symm
 rw[hs] at hu
 rw[hs,ht] at hv
 simp only[bcan,h,if_true]
 simp at hu hv ⊢
 exact⟨hu,hv⟩
theorem ar6 (ma:bmay a=true) (h:dV b=true) (hu:(!((a.ul==aB b)&&(a.uh==aB b)))=true) (hv:(!((a.sl==IntKind.i64.wrap (aB b))&&(a.sh==IntKind.i64.wrap (aB b))))=true):(⟨if(a.ul==aB b)=true/\(a.uh==aB b)=false then IntKind.u64.wrap (a.ul+1) else a.ul,if(a.ul==aB b)=false/\(a.uh==aB b)=true then IntKind.u64.wrap (a.uh-1) else a.uh,if(a.sl==IntKind.i64.wrap (aB b))=true/\(a.sh==IntKind.i64.wrap (aB b))=false then IntKind.i64.wrap (a.sl+1) else a.sl,if(a.sl==IntKind.i64.wrap (aB b))=false/\(a.sh==IntKind.i64.wrap (aB b))=true then IntKind.i64.wrap (a.sh-1) else a.sh⟩:Rg)=brng 1 a b:=by
 have hs:aB b=b.ul:=by unfold aB;rw[h];simp
 have ht:IntKind.i64.wrap b.ul=s64 b.ul:=(cd _).symm
 rw[hs] at hu
 rw[hs,ht] at hv
 rw[hs,ht]
 have wa:=Rg.wf_of ha
 have wb:=Rg.wf_of hb
 obtain⟨⟨a0,a1⟩,⟨a2,a3⟩,⟨a4,a5⟩,a6,a7⟩:=wa
 obtain⟨⟨b0,b1⟩,⟨b2,b3⟩,⟨b4,b5⟩,b6,b7⟩:=wb
 have sb:=px b.ul
 rw[er] at ma
 simp only[brng,h,if_true,Rg.ext_iff]
 generalize s64 b.ul=t at *
 simp only[Bool.not_eq_true',Bool.and_eq_false_iff,beq_eq_false_iff_ne,ne_eq] at hu hv
 simp only[dl,beq_eq_false_iff_ne,ne_eq,bg,aR]
 refine⟨?_,?_,?_,?_⟩<;>(split<;>(try split)<;>omega)
end
def tys_XbE:List (Nat×TI):=[(2,tiq2),
 (37,ig),
 (42,fP),
 (44,ic),
 (209,ac4),
 (213,ac3)]
theorem acD:(tys_XbE.all fun p=>ckTI Tryz.prog p.1 p.2)=true:=by kernel_rfl
theorem tk:(tys_XbE.all fun p=>!p.2.eqok)=true:=by kernel_rfl
theorem acj:(tys_XbE.all fun p=>!p.2.keyok)=true:=by kernel_rfl
theorem dE:∀t i,(t,i)∈tys_XbE->TIok Tryz.prog t i:=by
 intro t i h
 refine bE (cC (f:=ckTI Tryz.prog) acD h) (fun he=> ?_) (fun he=> ?_) (fun he=> ?_)
 ·have h1:=thm7.1 tk (t,i) h
  simp[he] at h1
 ·have h1:=thm7.1 tk (t,i) h
  simp[he] at h1
 ·have h1:=thm7.1 acj (t,i) h
  simp[he] at h1
def nA (key:Nat):Sm:=⟨25,key,[.one (.int .i8),.one (.int .i8),.one (.int .u64),.one (.int .u64)],[.one (.int .u64),.one (.int .i64)],true⟩
def mW (op:Int) (l:Int) (x:Int) (y:Int):List Dt:=[.z (if okop op l=true then zdo op l x y else 0),.z (if okop op l=true then 0 else 2)]
def kQ:List Dt->List Dt
 | [.z x0,.z x1,.z x2,.z x3]=>mW x0 x1 x2 x3
 | _=>[]
theorem adP (op:Int) (hop:inK .i8 op=true) (l:Int) (hl:inK .i8 l=true) (x:Int) (hx:inK .u64 x=true) (y:Int) (hy:inK .u64 y=true):(∀w,Calls Tryz.prog 25 #[.int .i8 op,.int .i8 l,.int .u64 x,.int .u64 y] w fun e w'=>e=.returned (.tuple #[.int .u64 (if okop op l=true then zdo op l x y else 0),.int .i64 (if okop op l=true then 0 else 2)])/\Ext w w')/\iI (.tuple #[.int .u64 (if okop op l=true then zdo op l x y else 0),.int .i64 (if okop op l=true then 0 else 2)])=true:=by
 have gx:=cy hx
 have gy:=cy hy
 cases hk:okop op l
 ·refine⟨fun w=>(aq5 op l x y w ?_).mono ?_,by simp[iI,gD,gN];decide⟩
  ·unfold okop at hk
   rw[Bool.and_eq_false_iff,Bool.and_eq_false_iff] at hk
   rcases hk with(hk | hk) | hk
   ·have:=thm2 hk
    simp;omega
   ·have:=thm2 hk
    simp;omega
   ·rw[hk];simp
  ·rintro e w' ⟨rfl,rfl⟩
   exact⟨by simp,Ext.refl _⟩
 ·unfold okop at hk
  simp only[thm0,bl] at hk
  have hz:=qm (ao1 op l x y gx.1 gx.2 gy.1 gy.2)
  refine⟨fun w=>(aq6 op l x y w gx.1 gx.2 gy.1 gy.2 hk.1.1 hk.1.2 hk.2).mono ?_,by simp[iI,gD,gN,hz];decide⟩
  rintro e w' ⟨rfl,hx⟩
  exact⟨by simp,hx⟩
theorem anX {sp:Spec} {key:Nat} (hF:sp.F key=kQ):SmOk Tryz.prog sp (nA key):=by
 refine SmOk.pure hF rfl rfl fun xs vals w h=> ?_
 obtain⟨_,_,_,rfl,⟨x0,rfl,rfl,gx0⟩,h⟩:=h
 obtain⟨_,_,_,rfl,⟨x1,rfl,rfl,gx1⟩,h⟩:=h
 obtain⟨_,_,_,rfl,⟨x2,rfl,rfl,gx2⟩,h⟩:=h
 obtain⟨_,_,_,rfl,⟨x3,rfl,rfl,gx3⟩,h⟩:=h
 obtain⟨rfl,rfl⟩:=h
 have q:=adP x0 gx0 x1 gx1 x2 gx2 x3 gx3
 refine⟨_,.inr ⟨dd Tryz.func25 (by kernel_rfl) (by kernel_rfl) _ w,q.1 w⟩,?_,fun U v0 nid j he=> ?_⟩
 ·have q2:=q.2
  simp[iI,gD,gN] at q2
  simp[nA,kQ,mW,List.flatMap_cons,List.flatMap_nil,Sh.cks,List.append_nil,List.cons_append,List.nil_append,b2i_one,fc,q2]
 ·simp only[nA,kQ,mW,List.flatMap_cons,List.flatMap_nil,Sh.cks,List.append_nil,List.cons_append,List.nil_append,b2i_one,eqs,dI,dB,bK,lS,bn,Nat.add_zero,Nat.reduceAdd,and_true] at he
  simp[nA,kQ,mW,List.flatMap_cons,List.flatMap_nil,Sh.cks,List.append_nil,List.cons_append,List.nil_append,b2i_one,eZ,bk,aE,V.den,C.den,denL,den0,bD,E.I,E.B,he]
def ae1 (key:Nat):Sm:=⟨195,key,[.agg kPu,.one (.int .u64)],[.agg kPu,.one .bool],true⟩
def adX (a:Pu) (v:Int):List Dt:=[.z (((⟨if(a.lo==v)=true/\(a.hi==v)=false then IntKind.u64.wrap (a.lo+1) else a.lo,if(a.lo==v)=false/\(a.hi==v)=true then IntKind.u64.wrap (a.hi-1) else a.hi⟩:Pu)).lo),.z (((⟨if(a.lo==v)=true/\(a.hi==v)=false then IntKind.u64.wrap (a.lo+1) else a.lo,if(a.lo==v)=false/\(a.hi==v)=true then IntKind.u64.wrap (a.hi-1) else a.hi⟩:Pu)).hi),.z (b2i ((!((a.lo==v)&&(a.hi==v)))))]
def uR:List Dt->List Dt
 | [.z x0,.z x1,.z x2]=>adX ⟨x0,x1⟩ x2
 | _=>[]
def sT_uwo:Tr:=
(.br (.eq (.var 0) (.var 2))
(.br (.eq (.var 1) (.var 2))
(.leaf (.vs 0 2 (.cb (.tt false) .nil)))
(.leaf (.cons (.bin .add .u64 (.var 0) (.lit 1)) (.cons (.var 1) (.cb (.tt true) .nil)))))
(.br (.eq (.var 1) (.var 2))
(.leaf (.cons (.var 0) (.cons (.bin .sub .u64 (.var 1) (.lit 1)) (.cb (.tt true) .nil))))
(.leaf (.vs 0 2 (.cb (.tt true) .nil)))))
def akg:Spec:={F:=fun k=>match k with | _=>fun _=>[],pre:=fun _ _=>True}
theorem apM:ap tys_XbE [] [] [] [] 200 Tryz.f195 [.agg kPu,.one (.int .u64)] [.agg kPu,.one .bool] true [.int .u64,.int .u64,.int .u64] sT_uwo:=⟨by kernel_rfl,by kernel_rfl,by kernel_rfl⟩
theorem apq (a:Pu) (ha:Pu.ok a) (v:Int) (hv:inK .u64 v=true) (U:Env) (g:varsD U 0 [.int .u64,.int .u64,.int .u64]=[.z a.lo,.z a.hi,.z v]):sT_uwo.asks akg (fun U e=>e.D U=uR [.z a.lo,.z a.hi,.z v]) U fun _ _=>False:=by
 simp only[varsD,varD,thm5,gS0,Nat.reduceAdd,and_true] at g
 simp only[sT_uwo,akg,uR,adX,simQ,af,S1,Nat.reduceSub,Nat.reduceAdd,-eq_self,Pu.eta,g]
 constructor<;>intro c0
 constructor<;>intro c1
 ·(simp_all [opI])
 ·(simp_all [opI])
 constructor<;>intro c2
 ·(simp_all [opI])
 ·(simp_all [opI])
theorem ap8 {sp:Spec} {key:Nat} (hF:sp.F key=uR) (hP:sp.pre key=fun _=>True:=by rfl):SmOk Tryz.prog sp (ae1 key):=
 au (s:=ae1 key) hF hP su dE (sm0) Tryz.func195 fn0 apM (.inl rfl) (fun x0 gx0 x1 gx1 x2 gx2 hp U g=>apq ⟨x0,x1⟩ ⟨gx0,gx1⟩ x2 gx2 U g)
def ae6 (key:Nat):Sm:=⟨196,key,[.agg kPi,.one (.int .i64)],[.agg kPi,.one .bool],true⟩
def ad3 (a:Pi) (v:Int):List Dt:=[.z (((⟨if(a.lo==v)=true/\(a.hi==v)=false then IntKind.i64.wrap (a.lo+1) else a.lo,if(a.lo==v)=false/\(a.hi==v)=true then IntKind.i64.wrap (a.hi-1) else a.hi⟩:Pi)).lo),.z (((⟨if(a.lo==v)=true/\(a.hi==v)=false then IntKind.i64.wrap (a.lo+1) else a.lo,if(a.lo==v)=false/\(a.hi==v)=true then IntKind.i64.wrap (a.hi-1) else a.hi⟩:Pi)).hi),.z (b2i ((!((a.lo==v)&&(a.hi==v)))))]
def uX:List Dt->List Dt
 | [.z x0,.z x1,.z x2]=>ad3 ⟨x0,x1⟩ x2
 | _=>[]
def sT_iwo:Tr:=
(.br (.eq (.var 0) (.var 2))
(.br (.eq (.var 1) (.var 2))
(.leaf (.vs 0 2 (.cb (.tt false) .nil)))
(.leaf (.cons (.bin .add .i64 (.var 0) (.lit 1)) (.cons (.var 1) (.cb (.tt true) .nil)))))
(.br (.eq (.var 1) (.var 2))
(.leaf (.cons (.var 0) (.cons (.bin .sub .i64 (.var 1) (.lit 1)) (.cb (.tt true) .nil))))
(.leaf (.vs 0 2 (.cb (.tt true) .nil)))))
def akq:Spec:={F:=fun k=>match k with | _=>fun _=>[],pre:=fun _ _=>True}
theorem apW:ap tys_XbE [] [] [] [] 200 Tryz.f196 [.agg kPi,.one (.int .i64)] [.agg kPi,.one .bool] true [.int .i64,.int .i64,.int .i64] sT_iwo:=⟨by kernel_rfl,by kernel_rfl,by kernel_rfl⟩
theorem apB (a:Pi) (ha:Pi.ok a) (v:Int) (hv:inK .i64 v=true) (U:Env) (g:varsD U 0 [.int .i64,.int .i64,.int .i64]=[.z a.lo,.z a.hi,.z v]):sT_iwo.asks akq (fun U e=>e.D U=uX [.z a.lo,.z a.hi,.z v]) U fun _ _=>False:=by
 simp only[varsD,varD,thm5,gS0,Nat.reduceAdd,and_true] at g
 simp only[sT_iwo,akq,uX,ad3,simQ,af,S1,Nat.reduceSub,Nat.reduceAdd,-eq_self,Pi.eta,g]
 constructor<;>intro c0
 constructor<;>intro c1
 ·(simp_all [opI])
 ·(simp_all [opI])
 constructor<;>intro c2
 ·(simp_all [opI])
 ·(simp_all [opI])
theorem aqf {sp:Spec} {key:Nat} (hF:sp.F key=uX) (hP:sp.pre key=fun _=>True:=by rfl):SmOk Tryz.prog sp (ae6 key):=
 au (s:=ae6 key) hF hP su dE (sm0) Tryz.func196 fn0 apW (.inl rfl) (fun x0 gx0 x1 gx1 x2 gx2 hp U g=>apB ⟨x0,x1⟩ ⟨gx0,gx1⟩ x2 gx2 U g)
def nh (key:Nat):Sm:=⟨197,key,[.agg kPu,.agg kPu,.one .bool,.one (.int .u64)],[.agg kPu,.one .bool],true⟩
def mM (a:Pu) (b:Pu) (t:Bool) (m:Int):List Dt:=[.z (((⟨if t=true/\(b.lo==m)=true then a.lo else max a.lo (if t=true then IntKind.u64.wrap (b.lo+1) else b.lo),a.hi⟩:Pu)).lo),.z (((⟨if t=true/\(b.lo==m)=true then a.lo else max a.lo (if t=true then IntKind.u64.wrap (b.lo+1) else b.lo),a.hi⟩:Pu)).hi),.z (b2i ((!(t&&(b.lo==m)))))]
def gi:List Dt->List Dt
 | [.z x0,.z x1,.z x2,.z x3,.z x4,.z x5]=>mM ⟨x0,x1⟩ ⟨x2,x3⟩ (x4==1) x5
 | _=>[]
def sT_uabove:Tr:=
(.br (.bw 4)
(.br (.eq (.var 2) (.var 5))
(.leaf (.vs 0 2 (.cb (.tt false) .nil)))
(.leaf (.cons (.mx (.var 0) (.bin .add .u64 (.var 2) (.lit 1))) (.cons (.var 1) (.cb (.tt true) .nil)))))
(.leaf (.cons (.mx (.var 0) (.var 2)) (.cons (.var 1) (.cb (.tt true) .nil)))))
def ux:Spec:={F:=fun k=>match k with | _=>fun _=>[],pre:=fun _ _=>True}
theorem ad8:ap tys_XbE [] [] [] [] 200 Tryz.f197 [.agg kPu,.agg kPu,.one .bool,.one (.int .u64)] [.agg kPu,.one .bool] true [.int .u64,.int .u64,.int .u64,.int .u64,.bool,.int .u64] sT_uabove:=⟨by kernel_rfl,by kernel_rfl,by kernel_rfl⟩
theorem adC (a:Pu) (ha:Pu.ok a) (b:Pu) (hb:Pu.ok b) (t:Bool) (m:Int) (hm:inK .u64 m=true) (U:Env) (g:varsD U 0 [.int .u64,.int .u64,.int .u64,.int .u64,.bool,.int .u64]=[.z a.lo,.z a.hi,.z b.lo,.z b.hi,.z (b2i t),.z m]):sT_uabove.asks ux (fun U e=>e.D U=gi [.z a.lo,.z a.hi,.z b.lo,.z b.hi,.z (b2i t),.z m]) U fun _ _=>False:=by
 simp only[varsD,varD,thm5,gS0,Nat.reduceAdd,and_true] at g
 simp only[sT_uabove,ux,gi,mM,simQ,af,S1,Nat.reduceSub,Nat.reduceAdd,-eq_self,Pu.eta,g]
 constructor<;>intro c0
 constructor<;>intro c1
 ·(simp_all [opI])
 ·(simp_all [opI])
 ·(simp_all [opI])
theorem afc {sp:Spec} {key:Nat} (hF:sp.F key=gi) (hP:sp.pre key=fun _=>True:=by rfl):SmOk Tryz.prog sp (nh key):=
 au (s:=nh key) hF hP su dE (sm0) Tryz.func197 fn0 ad8 (.inl rfl) (fun x0 gx0 x1 gx1 x2 gx2 x3 gx3 x4 x5 gx5 hp U g=>adC ⟨x0,x1⟩ ⟨gx0,gx1⟩ ⟨x2,x3⟩ ⟨gx2,gx3⟩ x4 x5 gx5 U g)
def ng (key:Nat):Sm:=⟨198,key,[.agg kPu,.agg kPu,.one .bool,.one (.int .u64)],[.agg kPu,.one .bool],true⟩
def mL (a:Pu) (b:Pu) (t:Bool) (m:Int):List Dt:=[.z (((⟨a.lo,if t=true/\(b.hi==m)=true then a.hi else min a.hi (if t=true then IntKind.u64.wrap (b.hi-1) else b.hi)⟩:Pu)).lo),.z (((⟨a.lo,if t=true/\(b.hi==m)=true then a.hi else min a.hi (if t=true then IntKind.u64.wrap (b.hi-1) else b.hi)⟩:Pu)).hi),.z (b2i ((!(t&&(b.hi==m)))))]
def gg:List Dt->List Dt
 | [.z x0,.z x1,.z x2,.z x3,.z x4,.z x5]=>mL ⟨x0,x1⟩ ⟨x2,x3⟩ (x4==1) x5
 | _=>[]
def sT_ubelow:Tr:=
(.br (.bw 4)
(.br (.eq (.var 3) (.var 5))
(.leaf (.vs 0 2 (.cb (.tt false) .nil)))
(.leaf (.cons (.var 0) (.cons (.mn (.var 1) (.bin .sub .u64 (.var 3) (.lit 1))) (.cb (.tt true) .nil)))))
(.leaf (.cons (.var 0) (.cons (.mn (.var 1) (.var 3)) (.cb (.tt true) .nil)))))
def uw:Spec:={F:=fun k=>match k with | _=>fun _=>[],pre:=fun _ _=>True}
theorem ad7:ap tys_XbE [] [] [] [] 200 Tryz.f198 [.agg kPu,.agg kPu,.one .bool,.one (.int .u64)] [.agg kPu,.one .bool] true [.int .u64,.int .u64,.int .u64,.int .u64,.bool,.int .u64] sT_ubelow:=⟨by kernel_rfl,by kernel_rfl,by kernel_rfl⟩
theorem adB (a:Pu) (ha:Pu.ok a) (b:Pu) (hb:Pu.ok b) (t:Bool) (m:Int) (hm:inK .u64 m=true) (U:Env) (g:varsD U 0 [.int .u64,.int .u64,.int .u64,.int .u64,.bool,.int .u64]=[.z a.lo,.z a.hi,.z b.lo,.z b.hi,.z (b2i t),.z m]):sT_ubelow.asks uw (fun U e=>e.D U=gg [.z a.lo,.z a.hi,.z b.lo,.z b.hi,.z (b2i t),.z m]) U fun _ _=>False:=by
 simp only[varsD,varD,thm5,gS0,Nat.reduceAdd,and_true] at g
 simp only[sT_ubelow,uw,gg,mL,simQ,af,S1,Nat.reduceSub,Nat.reduceAdd,-eq_self,Pu.eta,g]
 constructor<;>intro c0
 constructor<;>intro c1
 ·(simp_all [opI])
 ·(simp_all [opI])
 ·(simp_all [opI])
theorem afb {sp:Spec} {key:Nat} (hF:sp.F key=gg) (hP:sp.pre key=fun _=>True:=by rfl):SmOk Tryz.prog sp (ng key):=
 au (s:=ng key) hF hP su dE (sm0) Tryz.func198 fn0 ad7 (.inl rfl) (fun x0 gx0 x1 gx1 x2 gx2 x3 gx3 x4 x5 gx5 hp U g=>adB ⟨x0,x1⟩ ⟨gx0,gx1⟩ ⟨x2,x3⟩ ⟨gx2,gx3⟩ x4 x5 gx5 U g)
def nz (key:Nat):Sm:=⟨199,key,[.agg kPi,.agg kPi,.one .bool,.one (.int .i64)],[.agg kPi,.one .bool],true⟩
def mV (a:Pi) (b:Pi) (t:Bool) (m:Int):List Dt:=[.z (((⟨if t=true/\(b.lo==m)=true then a.lo else max a.lo (if t=true then IntKind.i64.wrap (b.lo+1) else b.lo),a.hi⟩:Pi)).lo),.z (((⟨if t=true/\(b.lo==m)=true then a.lo else max a.lo (if t=true then IntKind.i64.wrap (b.lo+1) else b.lo),a.hi⟩:Pi)).hi),.z (b2i ((!(t&&(b.lo==m)))))]
def gu:List Dt->List Dt
 | [.z x0,.z x1,.z x2,.z x3,.z x4,.z x5]=>mV ⟨x0,x1⟩ ⟨x2,x3⟩ (x4==1) x5
 | _=>[]
def sT_iabove:Tr:=
(.br (.bw 4)
(.br (.eq (.var 2) (.var 5))
(.leaf (.vs 0 2 (.cb (.tt false) .nil)))
(.leaf (.cons (.mx (.var 0) (.bin .add .i64 (.var 2) (.lit 1))) (.cons (.var 1) (.cb (.tt true) .nil)))))
(.leaf (.cons (.mx (.var 0) (.var 2)) (.cons (.var 1) (.cb (.tt true) .nil)))))
def uJ:Spec:={F:=fun k=>match k with | _=>fun _=>[],pre:=fun _ _=>True}
theorem aek:ap tys_XbE [] [] [] [] 200 Tryz.f199 [.agg kPi,.agg kPi,.one .bool,.one (.int .i64)] [.agg kPi,.one .bool] true [.int .i64,.int .i64,.int .i64,.int .i64,.bool,.int .i64] sT_iabove:=⟨by kernel_rfl,by kernel_rfl,by kernel_rfl⟩
theorem adO (a:Pi) (ha:Pi.ok a) (b:Pi) (hb:Pi.ok b) (t:Bool) (m:Int) (hm:inK .i64 m=true) (U:Env) (g:varsD U 0 [.int .i64,.int .i64,.int .i64,.int .i64,.bool,.int .i64]=[.z a.lo,.z a.hi,.z b.lo,.z b.hi,.z (b2i t),.z m]):sT_iabove.asks uJ (fun U e=>e.D U=gu [.z a.lo,.z a.hi,.z b.lo,.z b.hi,.z (b2i t),.z m]) U fun _ _=>False:=by
 simp only[varsD,varD,thm5,gS0,Nat.reduceAdd,and_true] at g
 simp only[sT_iabove,uJ,gu,mV,simQ,af,S1,Nat.reduceSub,Nat.reduceAdd,-eq_self,Pi.eta,g]
 constructor<;>intro c0
 constructor<;>intro c1
 ·(simp_all [opI])
 ·(simp_all [opI])
 ·(simp_all [opI])
theorem afx {sp:Spec} {key:Nat} (hF:sp.F key=gu) (hP:sp.pre key=fun _=>True:=by rfl):SmOk Tryz.prog sp (nz key):=
 au (s:=nz key) hF hP su dE (sm0) Tryz.func199 fn0 aek (.inl rfl) (fun x0 gx0 x1 gx1 x2 gx2 x3 gx3 x4 x5 gx5 hp U g=>adO ⟨x0,x1⟩ ⟨gx0,gx1⟩ ⟨x2,x3⟩ ⟨gx2,gx3⟩ x4 x5 gx5 U g)
def ny (key:Nat):Sm:=⟨200,key,[.agg kPi,.agg kPi,.one .bool,.one (.int .i64)],[.agg kPi,.one .bool],true⟩
def mU (a:Pi) (b:Pi) (t:Bool) (m:Int):List Dt:=[.z (((⟨a.lo,if t=true/\(b.hi==m)=true then a.hi else min a.hi (if t=true then IntKind.i64.wrap (b.hi-1) else b.hi)⟩:Pi)).lo),.z (((⟨a.lo,if t=true/\(b.hi==m)=true then a.hi else min a.hi (if t=true then IntKind.i64.wrap (b.hi-1) else b.hi)⟩:Pi)).hi),.z (b2i ((!(t&&(b.hi==m)))))]
def gr:List Dt->List Dt
 | [.z x0,.z x1,.z x2,.z x3,.z x4,.z x5]=>mU ⟨x0,x1⟩ ⟨x2,x3⟩ (x4==1) x5
 | _=>[]
def sT_ibelow:Tr:=
(.br (.bw 4)
(.br (.eq (.var 3) (.var 5))
(.leaf (.vs 0 2 (.cb (.tt false) .nil)))
(.leaf (.cons (.var 0) (.cons (.mn (.var 1) (.bin .sub .i64 (.var 3) (.lit 1))) (.cb (.tt true) .nil)))))
(.leaf (.cons (.var 0) (.cons (.mn (.var 1) (.var 3)) (.cb (.tt true) .nil)))))
def uI:Spec:={F:=fun k=>match k with | _=>fun _=>[],pre:=fun _ _=>True}
theorem aej:ap tys_XbE [] [] [] [] 200 Tryz.f200 [.agg kPi,.agg kPi,.one .bool,.one (.int .i64)] [.agg kPi,.one .bool] true [.int .i64,.int .i64,.int .i64,.int .i64,.bool,.int .i64] sT_ibelow:=⟨by kernel_rfl,by kernel_rfl,by kernel_rfl⟩
theorem adN (a:Pi) (ha:Pi.ok a) (b:Pi) (hb:Pi.ok b) (t:Bool) (m:Int) (hm:inK .i64 m=true) (U:Env) (g:varsD U 0 [.int .i64,.int .i64,.int .i64,.int .i64,.bool,.int .i64]=[.z a.lo,.z a.hi,.z b.lo,.z b.hi,.z (b2i t),.z m]):sT_ibelow.asks uI (fun U e=>e.D U=gr [.z a.lo,.z a.hi,.z b.lo,.z b.hi,.z (b2i t),.z m]) U fun _ _=>False:=by
 simp only[varsD,varD,thm5,gS0,Nat.reduceAdd,and_true] at g
 simp only[sT_ibelow,uI,gr,mU,simQ,af,S1,Nat.reduceSub,Nat.reduceAdd,-eq_self,Pi.eta,g]
 constructor<;>intro c0
 constructor<;>intro c1
 ·(simp_all [opI])
 ·(simp_all [opI])
 ·(simp_all [opI])
theorem afw {sp:Spec} {key:Nat} (hF:sp.F key=gr) (hP:sp.pre key=fun _=>True:=by rfl):SmOk Tryz.prog sp (ny key):=
 au (s:=ny key) hF hP su dE (sm0) Tryz.func200 fn0 aej (.inl rfl) (fun x0 gx0 x1 gx1 x2 gx2 x3 gx3 x4 x5 gx5 hp U g=>adN ⟨x0,x1⟩ ⟨gx0,gx1⟩ ⟨x2,x3⟩ ⟨gx2,gx3⟩ x4 x5 gx5 U g)
def rS (key:Nat):Sm:=⟨149,key,[.one (.int .i8),.agg kRg,.agg kRg],[.agg kRg,.one .bool],true⟩
def rh (cc:Int) (a:Rg) (b:Rg):List Dt:=[.z ((bgiv cc a b).ul),.z ((bgiv cc a b).uh),.z ((bgiv cc a b).sl),.z ((bgiv cc a b).sh),.z (b2i (bgok cc a b))]
def jR:List Dt->List Dt
 | [.z x0,.z x1,.z x2,.z x3,.z x4,.z x5,.z x6,.z x7,.z x8]=>rh x0 ⟨x1,x2,x3,x4⟩ ⟨x5,x6,x7,x8⟩
 | _=>[]
def alC:Tr:=(.call 1 (kRg) .nil 20
(.leaf (.vs 20 4 (.cb (.tt false) .nil))))
def alD:Tr:=(.call 1 (kRg) .nil 23
(.leaf (.vs 23 4 (.cb (.tt false) .nil))))
def ahp:Tr:=(.call 1 (kRg) .nil 11
(.leaf (.vs 11 4 (.cb (.tt false) .nil))))
def alE:Tr:=(.call 13 (kRg++[.bool]) (.vs 20 4 .nil) 24
(.leaf (.vs 24 4 (.cb (.bw 28) .nil))))
def alF:Tr:=(.br (.bw 19)
(.call 12 (kRg) (.vs 11 2 (.vs 17 2 .nil)) 20
 alE)
 alC)
def alG:Tr:=(.br (.bw 19)
(.call 12 (kRg) (.vs 17 2 (.vs 13 2 .nil)) 20
 alE)
 alC)
def alH:Tr:=(.call 4 (kPu) (.vs 5 4 .nil) 15
(.call 9 (kPu++[.bool]) (.vs 11 2 (.vs 15 2 (.cb (.eq (.var 0) (.lit 4)) (.cons (.lit 0) .nil)))) 17
 alG))
def alI:Tr:=(.call 5 (kPi) (.vs 5 4 .nil) 15
(.call 10 (kPi++[.bool]) (.vs 13 4 (.cb (.eq (.var 0) (.lit 6)) (.cons (.lit 9223372036854775807) .nil))) 17
 alF))
def alJ:Tr:=(.call 5 (kPi) (.vs 5 4 .nil) 15
(.call 11 (kPi++[.bool]) (.vs 13 4 (.cb (.eq (.var 0) (.lit 8)) (.cons (.lit (-9223372036854775808)) .nil))) 17
 alF))
def alK:Tr:=(.call 4 (kPu) (.vs 5 4 .nil) 15
(.call 8 (kPu++[.bool]) (.vs 11 2 (.vs 15 2 (.cb (.eq (.var 0) (.lit 2)) (.cons (.lit 18446744073709551615) .nil)))) 17
 alG))
def sT_given:Tr:=
(.call 0 [.bool] (.vs 1 4 .nil) 9
(.br (.bw 9)
(.call 0 [.bool] (.vs 5 4 .nil) 10
(.br (.bw 10)
(.br (.lt (.var 0) (.lit 0))
 ahp
(.br (.lt (.lit 10) (.var 0))
 ahp
(.call 4 (kPu) (.vs 1 4 .nil) 11
(.call 5 (kPi) (.vs 1 4 .nil) 13
(.br (.eq (.var 0) (.lit 0))
(.call 2 (kRg++[.bool]) (.vs 1 8 .nil) 15
(.leaf (.vs 15 4 (.cb (.bw 19) .nil))))
(.br (.eq (.var 0) (.lit 1))
(.call 3 [.int .u64,.bool] (.vs 5 4 .nil) 15
(.br (.bw 16)
(.call 6 (kPu++[.bool]) (.vs 11 2 (.cons (.var 15) .nil)) 17
(.call 7 (kPi++[.bool]) (.vs 13 2 (.cons (.conv .i64 (.var 15)) .nil)) 20
(.br (.bw 19)
(.br (.bw 22)
(.call 12 (kRg) (.vs 17 2 (.vs 20 2 .nil)) 23
(.call 13 (kRg++[.bool]) (.vs 23 4 .nil) 27
(.leaf (.vs 27 4 (.cb (.bw 31) .nil)))))
 alD)
 alD)))
(.call 12 (kRg) (.vs 11 4 .nil) 17
(.call 13 (kRg++[.bool]) (.vs 17 4 .nil) 21
(.leaf (.vs 21 4 (.cb (.bw 25) .nil)))))))
(.br (.eq (.var 0) (.lit 2))
 alK
(.br (.eq (.var 0) (.lit 3))
 alK
(.br (.eq (.var 0) (.lit 4))
 alH
(.br (.eq (.var 0) (.lit 5))
 alH
(.br (.eq (.var 0) (.lit 6))
 alI
(.br (.eq (.var 0) (.lit 7))
 alI
(.br (.eq (.var 0) (.lit 8))
 alJ
(.br (.eq (.var 0) (.lit 9))
 alJ
(.call 12 (kRg) (.vs 11 4 .nil) 15
(.call 13 (kRg++[.bool]) (.vs 15 4 .nil) 19
(.leaf (.vs 19 4 (.cb (.bw 23) .nil)))))))))))))))))))
 ahp))
(.call 1 (kRg) .nil 10
(.leaf (.vs 10 4 (.cb (.tt false) .nil))))))
def zB:Spec:={F:=fun k=>match k with | 0=>cF | 1=>bv | 2=>iV | 3=>cE | 4=>dJ | 5=>dM | 6=>uR | 7=>uX | 8=>gi | 9=>gg | 10=>gu | 11=>gr | 12=>iS | 13=>jK | _=>fun _=>[],pre:=fun _ _=>True}
theorem aiS:ap tys_XbE [ir 0,dH 1,rK 2,ge 3,lC 4,lD 5,ae1 6,ae6 7,nh 8,ng 9,nz 10,ny 11,uL 12,uM 13] [] [] [] 200 Tryz.f149 [.one (.int .i8),.agg kRg,.agg kRg] [.agg kRg,.one .bool] true [.int .i8,.int .u64,.int .u64,.int .i64,.int .i64,.int .u64,.int .u64,.int .i64,.int .i64] sT_given:=⟨by kernel_rfl,by kernel_rfl,by kernel_rfl⟩
theorem aio (cc:Int) (hcc:inK .i8 cc=true) (a:Rg) (ha:Rg.ok a) (b:Rg) (hb:Rg.ok b) (U:Env) (g:varsD U 0 [.int .i8,.int .u64,.int .u64,.int .i64,.int .i64,.int .u64,.int .u64,.int .i64,.int .i64]=[.z cc,.z a.ul,.z a.uh,.z a.sl,.z a.sh,.z b.ul,.z b.uh,.z b.sl,.z b.sh]):sT_given.asks zB (fun U e=>e.D U=jR [.z cc,.z a.ul,.z a.uh,.z a.sl,.z a.sh,.z b.ul,.z b.uh,.z b.sl,.z b.sh]) U fun _ _=>False:=by
 simp only[varsD,varD,thm5,gS0,Nat.reduceAdd,and_true] at g
 simp only[sT_given,alK,alJ,alI,alH,alG,alF,alE,ahp,alD,alC,zB,kPi,kPu,kRg,cF,bv,iV,cE,dJ,dM,uR,uX,gi,gg,gu,gr,iS,jK,iq,qV,fX,lA,lB,adX,ad3,mM,mL,mV,mU,uq,ur,jR,rh,simQ,af,S1,Nat.reduceSub,Nat.reduceAdd,-eq_self,ai,g]
 intro e;(try simp only[e,ai,-eq_self]);clear e
 constructor<;>intro c0
 intro e;(try simp only[e,ai,-eq_self]);clear e
 constructor<;>intro c1
 constructor<;>intro c2
 intro e;(try simp only[e,ai,-eq_self]);clear e
 ·exact cf (em (.inl (by unfold ky;rw[c0,c1,ij (show¬0<=cc from Int.not_le.2 (thm3 c2))];rfl))).1 (em (.inl (by unfold ky;rw[c0,c1,ij (show¬0<=cc from Int.not_le.2 (thm3 c2))];rfl))).2
 constructor<;>intro c3
 intro e;(try simp only[e,ai,-eq_self]);clear e
 ·exact cf (em (.inl (by unfold ky;rw[c0,c1,ij (show¬cc<=10 from Int.not_le.2 (thm3 c3))];simp))).1 (em (.inl (by unfold ky;rw[c0,c1,ij (show¬cc<=10 from Int.not_le.2 (thm3 c3))];simp))).2
 intro e;(try simp only[e,ai,-eq_self]);clear e
 intro e;(try simp only[e,ai,-eq_self]);clear e
 constructor<;>intro c4
 intro e;(try simp only[e,ai,-eq_self]);clear e
 ·(have hcc:0<=cc/\cc<=10:=⟨bm.1 (thm2 c2),bm.1 (thm2 c3)⟩;have hg:=bq c0 c1 hcc;obtain rfl:=eqz c4;exact cf (aqR hg).1 (aqR hg).2)
 constructor<;>intro c5
 intro e;(try simp only[e,ai,-eq_self]);clear e
 constructor<;>intro c6
 intro e;(try simp only[e,ai,-eq_self]);clear e
 intro e;(try simp only[e,ai,-eq_self]);clear e
 constructor<;>intro c7
 constructor<;>intro c8
 intro e;(try simp only[e,ai,-eq_self]);clear e
 intro e;(try simp only[e,ai,-eq_self]);clear e
 ·(have hcc:0<=cc/\cc<=10:=⟨bm.1 (thm2 c2),bm.1 (thm2 c3)⟩;have hg:=bq c0 c1 hcc;obtain rfl:=eqz c5;have hq:=gI (by omega) hg (asj ha hb c6 c7 c8) (ar6 ha hb c0 c6 c7 c8);exact cf hq.1 hq.2)
 intro e;(try simp only[e,ai,-eq_self]);clear e
 ·(have hcc:0<=cc/\cc<=10:=⟨bm.1 (thm2 c2),bm.1 (thm2 c3)⟩;have hg:=bq c0 c1 hcc;obtain rfl:=eqz c5;have hq:=em (cc:=1) (.inr ⟨by omega,aqO ha hb c6 (.inr c8)⟩);exact cf hq.1 hq.2)
 intro e;(try simp only[e,ai,-eq_self]);clear e
 ·(have hcc:0<=cc/\cc<=10:=⟨bm.1 (thm2 c2),bm.1 (thm2 c3)⟩;have hg:=bq c0 c1 hcc;obtain rfl:=eqz c5;have hq:=em (cc:=1) (.inr ⟨by omega,aqO ha hb c6 (.inl c7)⟩);exact cf hq.1 hq.2)
 intro e;(try simp only[e,ai,-eq_self]);clear e
 intro e;(try simp only[e,ai,-eq_self]);clear e
 ·(have hcc:0<=cc/\cc<=10:=⟨bm.1 (thm2 c2),bm.1 (thm2 c3)⟩;have hg:=bq c0 c1 hcc;obtain rfl:=eqz c5;have hq:=gI (by omega) hg (aqP ha hb c6) (aqM ha hb c6);exact cf hq.1 hq.2)
 constructor<;>intro c9
 intro e;(try simp only[e,ai,-eq_self]);clear e
 intro e;(try simp only[e,ai,-eq_self]);clear e
 constructor<;>intro c10
 intro e;(try simp only[e,ai,-eq_self]);clear e
 intro e;(try simp only[e,ai,-eq_self]);clear e
 ·(have hcc:0<=cc/\cc<=10:=⟨bm.1 (thm2 c2),bm.1 (thm2 c3)⟩;have hg:=bq c0 c1 hcc;obtain rfl:=eqz c9;have hq:=gI (by omega) hg (asi ha hb c10) (ar5 ha hb c10);exact cf hq.1 hq.2)
 intro e;(try simp only[e,ai,-eq_self]);clear e
 ·(have hcc:0<=cc/\cc<=10:=⟨bm.1 (thm2 c2),bm.1 (thm2 c3)⟩;have hg:=bq c0 c1 hcc;obtain rfl:=eqz c9;have hq:=em (cc:=2) (.inr ⟨by omega,asa ha hb c10⟩);exact cf hq.1 hq.2)
 constructor<;>intro c11
 intro e;(try simp only[e,ai,-eq_self]);clear e
 intro e;(try simp only[e,ai,-eq_self]);clear e
 constructor<;>intro c12
 intro e;(try simp only[e,ai,-eq_self]);clear e
 intro e;(try simp only[e,ai,-eq_self]);clear e
 ·(have hcc:0<=cc/\cc<=10:=⟨bm.1 (thm2 c2),bm.1 (thm2 c3)⟩;have hg:=bq c0 c1 hcc;obtain rfl:=eqz c11;have hq:=gI (by omega) hg (ash ha hb c12) (ar4 ha hb c12);exact cf hq.1 hq.2)
 intro e;(try simp only[e,ai,-eq_self]);clear e
 ·(have hcc:0<=cc/\cc<=10:=⟨bm.1 (thm2 c2),bm.1 (thm2 c3)⟩;have hg:=bq c0 c1 hcc;obtain rfl:=eqz c11;exact absurd c12 (by simp))
 constructor<;>intro c13
 intro e;(try simp only[e,ai,-eq_self]);clear e
 intro e;(try simp only[e,ai,-eq_self]);clear e
 constructor<;>intro c14
 intro e;(try simp only[e,ai,-eq_self]);clear e
 intro e;(try simp only[e,ai,-eq_self]);clear e
 ·(have hcc:0<=cc/\cc<=10:=⟨bm.1 (thm2 c2),bm.1 (thm2 c3)⟩;have hg:=bq c0 c1 hcc;obtain rfl:=eqz c13;have hq:=gI (by omega) hg (asg ha hb c14) (ar3 ha hb c14);exact cf hq.1 hq.2)
 intro e;(try simp only[e,ai,-eq_self]);clear e
 ·(have hcc:0<=cc/\cc<=10:=⟨bm.1 (thm2 c2),bm.1 (thm2 c3)⟩;have hg:=bq c0 c1 hcc;obtain rfl:=eqz c13;have hq:=em (cc:=4) (.inr ⟨by omega,ar9 ha hb c14⟩);exact cf hq.1 hq.2)
 constructor<;>intro c15
 intro e;(try simp only[e,ai,-eq_self]);clear e
 intro e;(try simp only[e,ai,-eq_self]);clear e
 constructor<;>intro c16
 intro e;(try simp only[e,ai,-eq_self]);clear e
 intro e;(try simp only[e,ai,-eq_self]);clear e
 ·(have hcc:0<=cc/\cc<=10:=⟨bm.1 (thm2 c2),bm.1 (thm2 c3)⟩;have hg:=bq c0 c1 hcc;obtain rfl:=eqz c15;have hq:=gI (by omega) hg (asf ha hb c16) (ar2 ha hb c16);exact cf hq.1 hq.2)
 intro e;(try simp only[e,ai,-eq_self]);clear e
 ·(have hcc:0<=cc/\cc<=10:=⟨bm.1 (thm2 c2),bm.1 (thm2 c3)⟩;have hg:=bq c0 c1 hcc;obtain rfl:=eqz c15;exact absurd c16 (by simp))
 constructor<;>intro c17
 intro e;(try simp only[e,ai,-eq_self]);clear e
 intro e;(try simp only[e,ai,-eq_self]);clear e
 constructor<;>intro c18
 intro e;(try simp only[e,ai,-eq_self]);clear e
 intro e;(try simp only[e,ai,-eq_self]);clear e
 ·(have hcc:0<=cc/\cc<=10:=⟨bm.1 (thm2 c2),bm.1 (thm2 c3)⟩;have hg:=bq c0 c1 hcc;obtain rfl:=eqz c17;have hq:=gI (by omega) hg (ase ha hb c18) (ar1 ha hb c18);exact cf hq.1 hq.2)
 intro e;(try simp only[e,ai,-eq_self]);clear e
 ·(have hcc:0<=cc/\cc<=10:=⟨bm.1 (thm2 c2),bm.1 (thm2 c3)⟩;have hg:=bq c0 c1 hcc;obtain rfl:=eqz c17;have hq:=em (cc:=6) (.inr ⟨by omega,ar8 ha hb c18⟩);exact cf hq.1 hq.2)
 constructor<;>intro c19
 intro e;(try simp only[e,ai,-eq_self]);clear e
 intro e;(try simp only[e,ai,-eq_self]);clear e
 constructor<;>intro c20
 intro e;(try simp only[e,ai,-eq_self]);clear e
 intro e;(try simp only[e,ai,-eq_self]);clear e
 ·(have hcc:0<=cc/\cc<=10:=⟨bm.1 (thm2 c2),bm.1 (thm2 c3)⟩;have hg:=bq c0 c1 hcc;obtain rfl:=eqz c19;have hq:=gI (by omega) hg (asd ha hb c20) (ar0 ha hb c20);exact cf hq.1 hq.2)
 intro e;(try simp only[e,ai,-eq_self]);clear e
 ·(have hcc:0<=cc/\cc<=10:=⟨bm.1 (thm2 c2),bm.1 (thm2 c3)⟩;have hg:=bq c0 c1 hcc;obtain rfl:=eqz c19;exact absurd c20 (by simp))
 constructor<;>intro c21
 intro e;(try simp only[e,ai,-eq_self]);clear e
 intro e;(try simp only[e,ai,-eq_self]);clear e
 constructor<;>intro c22
 intro e;(try simp only[e,ai,-eq_self]);clear e
 intro e;(try simp only[e,ai,-eq_self]);clear e
 ·(have hcc:0<=cc/\cc<=10:=⟨bm.1 (thm2 c2),bm.1 (thm2 c3)⟩;have hg:=bq c0 c1 hcc;obtain rfl:=eqz c21;have hq:=gI (by omega) hg (asc ha hb c22) (arZ ha hb c22);exact cf hq.1 hq.2)
 intro e;(try simp only[e,ai,-eq_self]);clear e
 ·(have hcc:0<=cc/\cc<=10:=⟨bm.1 (thm2 c2),bm.1 (thm2 c3)⟩;have hg:=bq c0 c1 hcc;obtain rfl:=eqz c21;have hq:=em (cc:=8) (.inr ⟨by omega,ar7 ha hb c22⟩);exact cf hq.1 hq.2)
 constructor<;>intro c23
 intro e;(try simp only[e,ai,-eq_self]);clear e
 intro e;(try simp only[e,ai,-eq_self]);clear e
 constructor<;>intro c24
 intro e;(try simp only[e,ai,-eq_self]);clear e
 intro e;(try simp only[e,ai,-eq_self]);clear e
 ·(have hcc:0<=cc/\cc<=10:=⟨bm.1 (thm2 c2),bm.1 (thm2 c3)⟩;have hg:=bq c0 c1 hcc;obtain rfl:=eqz c23;have hq:=gI (by omega) hg (asb ha hb c24) (arY ha hb c24);exact cf hq.1 hq.2)
 intro e;(try simp only[e,ai,-eq_self]);clear e
 ·(have hcc:0<=cc/\cc<=10:=⟨bm.1 (thm2 c2),bm.1 (thm2 c3)⟩;have hg:=bq c0 c1 hcc;obtain rfl:=eqz c23;exact absurd c24 (by simp))
 intro e;(try simp only[e,ai,-eq_self]);clear e
 intro e;(try simp only[e,ai,-eq_self]);clear e
 ·(have hcc:0<=cc/\cc<=10:=⟨bm.1 (thm2 c2),bm.1 (thm2 c3)⟩;have hg:=bq c0 c1 hcc;obtain rfl:cc=10:=(by have:=nez c4;have h1:=nez c5;have h2:=nez c9;have h3:=nez c11;have h4:=nez c13;have h5:=nez c15;have h6:=nez c17;have h7:=nez c19;have h8:=nez c21;have h9:=nez c23;omega);have hq:=gI (by omega) hg (aqQ ha hb) (aqN ha hb);exact cf hq.1 hq.2)
 intro e;(try simp only[e,ai,-eq_self]);clear e
 ·exact cf (em (.inl (by unfold ky;rw[c0,c1];rfl))).1 (em (.inl (by unfold ky;rw[c0,c1];rfl))).2
 intro e;(try simp only[e,ai,-eq_self]);clear e
 ·exact cf (em (.inl (by unfold ky;rw[c0];rfl))).1 (em (.inl (by unfold ky;rw[c0];rfl))).2
theorem ajd {sp:Spec} {key:Nat} (hF:sp.F key=jR) (hP:sp.pre key=fun _=>True:=by rfl):SmOk Tryz.prog sp (rS key):=
 au (s:=rS key) hF hP su dE (smc (lE rfl) (smc (eU rfl) (smc (afq rfl) (smc (nC rfl) (smc (pq rfl) (smc (pt rfl) (smc (ap8 rfl) (smc (aqf rfl) (smc (afc rfl) (smc (afb rfl) (smc (afx rfl) (smc (afw rfl) (smc (aba rfl) (smc (afp rfl) sm0)))))))))))))) Tryz.func149 fn0 aiS (.inl rfl) (fun x0 gx0 x1 gx1 x2 gx2 x3 gx3 x4 gx4 x5 gx5 x6 gx6 x7 gx7 x8 gx8 hp U g=>aio x0 gx0 ⟨x1,x2,x3,x4⟩ ⟨gx1,gx2,gx3,gx4⟩ ⟨x5,x6,x7,x8⟩ ⟨gx5,gx6,gx7,gx8⟩ U g)
structure Sc where
 ul:Int
 uh:Int
 sl:Int
 sh:Int
 v:Int
 m:Int
def Sc.r (a:Sc):Rg:=⟨a.ul,a.uh,a.sl,a.sh⟩
def Sc.k (a:Sc):Kn:=⟨a.v,a.m⟩
def sc (r:Rg) (k:Kn):Sc:=⟨r.ul,r.uh,r.sl,r.sh,k.v,k.m⟩
theorem Sc.eta_r (a:Sc):(⟨a.ul,a.uh,a.sl,a.sh⟩:Rg)=a.r:=rfl
theorem Sc.eta_k (a:Sc):(⟨a.v,a.m⟩:Kn)=a.k:=rfl
theorem Sc.eta_2 (r:Rg) (k:Kn):(⟨r.ul,r.uh,r.sl,r.sh,k.v,k.m⟩:Sc)=sc r k:=rfl
def vmay (a:Sc):Bool:=bmay a.r&&kmay a.k
def vall:Sc:=sc ball kall
def vone (v:Int):Sc:=sc (bone v) (kone v)
def vhas (a:Sc) (x:Int):Bool:=vmay a&&(bhas a.r x&&khas a.k x)
def ahu (a:Sc):Bool:=vmay a&&dV a.r
def kC (a:Sc):Int:=if vmay a=true then aB a.r else 0
def kcom (r:Rg):Kn:=lU r.ul (lh (bits .xor .u64 r.ul r.uh))
def vlo (k:Kn):Rg:=⟨k.v,bits .or .u64 k.v k.m,ball.sl,ball.sh⟩
def vs1 (a:Sc):Bool:=iD a.r (vlo a.k)
def vs2 (a:Sc):Bool:=iA a.k (kcom (lg a.r (vlo a.k)))
def vst (a:Sc):Sc:=sc (lg a.r (vlo a.k)) (oE a.k (kcom (lg a.r (vlo a.k))))
def vnok (a:Sc):Bool:=vmay a&&(vs1 a&&(vs2 a&&(vs1 (vst a)&&vs2 (vst a))))
def vnar (a:Sc):Sc:=if vnok a=true then vst (vst a) else vall
theorem vn_t {a:Sc} (h0:vmay a=true) (h1:vs1 a=true) (h2:vs2 a=true) (h3:vs1 (vst a)=true) (h4:vs2 (vst a)=true):vnar a=vst (vst a)/\vnok a=true:=by
 have h:vnok a=true:=by unfold vnok;rw[h0,h1,h2,h3,h4];rfl
 exact⟨if_pos h,h⟩
theorem vn_f {a:Sc} (h:vmay a=false\/vs1 a=false\/vs2 a=false\/vs1 (vst a)=false\/vs2 (vst a)=false):vnar a=vall/\vnok a=false:=by
 have h:vnok a=false:=by unfold vnok;rcases h with h | h | h | h | h<;>rw[h]<;>simp
 exact⟨if_neg (by rw[h];simp),h⟩
theorem ao7 (a:Sc):(if vnok a=true then vnar a else vall)=vnar a:=by
 cases h:vnok a
 ·unfold vnar;rw[h];simp
 ·simp
def fT (a b:Sc):Sc:=if vmay a=true/\vmay b=true then vnar (sc (o8 a.r b.r) (sC a.k b.k)) else vall
def bwid (x y:Rg):Rg:=⟨if(x.ul==y.ul)=false/\decide (y.ul<x.ul)=true then 0 else x.ul,if(x.uh==y.uh)=false/\decide (x.uh<y.uh)=true then 18446744073709551615 else x.uh,
 if(x.sl==y.sl)=false/\decide (y.sl<x.sl)=true then -9223372036854775808 else x.sl,if(x.sh==y.sh)=false/\decide (x.sh<y.sh)=true then 9223372036854775807 else x.sh⟩
def vwid (a b:Sc):Sc:=if vmay a=true/\vmay b=true then vnar (sc (bwid a.r b.r) (sC a.k b.k)) else vall
def vlow (a:Sc):Sc:=vnar (sc (blow a.r) (kcut a.k 32))
def vbel (t:Int):Sc:=vnar (sc ⟨0,t,ball.sl,ball.sh⟩ ⟨0,t⟩)
def vcap (r:Rg):Rg:=if r.uh<4294967296 then r else blow ball
def dj (op:Int) (a b:Sc):Rg:=
 if op=8\/op=12 then blow ball
 else if op=6\/op=7 then(if ahu b=true then vcap (bdo op a.r (vone (opI .and .u64 (kC b) 31)).r) else blow ball)
 else vcap (bdo op a.r b.r)
def vhf (op w:Int) (a b:Sc):Sc:=sc (dj op (vlow a) (vlow b)) (kdo op w (vlow a).k (vlow b).k)
def vdo (op w:Int) (a b:Sc):Sc:=
 if okop op w=true/\vmay a=true/\vmay b=true then(if w=64 then vnar (sc (bdo op a.r b.r) (kdo op 64 a.k b.k)) else if vnok (vhf op w a b)=true then vnar (vhf op w a b) else vbel 4294967295) else vall
def vgk (cc:Int) (a b:Sc):Kn:=if cc=0 then oE a.k b.k else a.k
def vgs (cc:Int) (a b:Sc):Sc:=sc (bgiv cc a.r b.r) (vgk cc a b)
def vgok (cc:Int) (a b:Sc):Bool:=vmay a&&(vmay b&&(bgok cc a.r b.r&&((if cc=0 then iA a.k b.k else true)&&vnok (vgs cc a b))))
def vgiv (cc:Int) (a b:Sc):Sc:=if vgok cc a b=true then vnar (vgs cc a b) else vall
theorem vg_0 {cc:Int} {a b:Sc} (h0:vmay a=true) (h1:vmay b=true) (h2:bgok cc a.r b.r=true) (h3:(cc==0)=true) (h4:iA a.k b.k=true):
  vgiv cc a b=vnar (sc (bgiv cc a.r b.r) (oE a.k b.k))/\vgok cc a b=vnok (sc (bgiv cc a.r b.r) (oE a.k b.k)):=by
 obtain rfl:=eqz h3
 have e:vgok 0 a b=vnok (sc (bgiv 0 a.r b.r) (oE a.k b.k)):=by unfold vgok;rw[h0,h1,h2,if_pos rfl,h4];rfl
 refine⟨?_,e⟩
 unfold vgiv
 rw[e]
 exact ao7 _
theorem vg_n {cc:Int} {a b:Sc} (h0:vmay a=true) (h1:vmay b=true) (h2:bgok cc a.r b.r=true) (h3:(cc==0)=false):
  vgiv cc a b=vnar (sc (bgiv cc a.r b.r) a.k)/\vgok cc a b=vnok (sc (bgiv cc a.r b.r) a.k):=by
 have h3:=nez h3
 have e:vgok cc a b=vnok (sc (bgiv cc a.r b.r) a.k):=by unfold vgok vgs vgk;rw[h0,h1,h2,if_neg h3,if_neg h3];rfl
 refine⟨?_,e⟩
 unfold vgiv
 rw[e]
 unfold vgs vgk
 rw[if_neg h3]
 exact ao7 _
theorem vg_f {cc:Int} {a b:Sc} (h:vmay a=false\/vmay b=false\/bgok cc a.r b.r=false\/((cc==0)=true/\iA a.k b.k=false)):vgiv cc a b=vall/\vgok cc a b=false:=by
 have h:vgok cc a b=false:=by
  unfold vgok
  rcases h with h | h | h | ⟨h,h'⟩
  ·rw[h];simp
  ·rw[h];simp
  ·rw[h];simp
  ·rw[if_pos (eqz h),h'];simp
 exact⟨if_neg (by rw[h];simp),h⟩
theorem aol {b:Bool} (h:((if b=true then(0:Int) else 2)==0)=true):b=true:=by cases b<;>simp_all
theorem aqA {b:Bool} (h:((if b=true then(0:Int) else 2)==0)=false):b=false:=by cases b<;>simp_all
theorem aO {r s:Kn} (h:r=s):[Dt.z r.v,.z r.m]=[Dt.z s.v,.z s.m]:=by rw[h]
theorem aqH {r:Rg} (hr:r.wf):(⟨bits .andNot .u64 r.ul (opI .sub .u64 (opI .shl .u64 1 (opI .sub .i64 64 (64-(aC (bits .xor .u64 r.ul r.uh).toNat:Int)))) 1),opI .sub .u64 (opI .shl .u64 1 (opI .sub .i64 64 (64-(aC (bits .xor .u64 r.ul r.uh).toNat:Int)))) 1⟩:Kn)=kcom r:=by
 have hx:=abZ r.ul r.uh
 have hb:aC (bits .xor .u64 r.ul r.uh).toNat<=64:=eJ (by omega)
 have e:opI .sub .i64 64 (64-(aC (bits .xor .u64 r.ul r.uh).toNat:Int))=(aC (bits .xor .u64 r.ul r.uh).toNat:Int):=by
  show IntKind.i64.wrap _=_
  rw[aR];omega
 rw[e,ya hx.1 hx.2]
 rfl
theorem aqI {r:Rg} (hr:r.wf) (h:decide (0<64-(aC (bits .xor .u64 r.ul r.uh).toNat:Int))=false):(⟨bits .andNot .u64 r.ul 18446744073709551615,18446744073709551615⟩:Kn)=kcom r:=by
 have h:=thm2 h
 have hx:=abZ r.ul r.uh
 have hb:aC (bits .xor .u64 r.ul r.uh).toNat<=64:=eJ (by omega)
 have e:lh (bits .xor .u64 r.ul r.uh)=18446744073709551615:=by
  unfold lh
  rw[show aC (bits .xor .u64 r.ul r.uh).toNat=64 by omega]
  rfl
 unfold kcom lU
 rw[e]
section
variable {op l:Int} {a b:Kn}
theorem vC (h:io op l a b=false):kall=kdo op l a b:=by
 unfold kdo;rw[if_neg (by rw[h];simp)]
theorem kd_a (h:kmay a=false):io op l a b=false:=by simp[io,h]
theorem kd_b (h:kmay b=false):io op l a b=false:=by simp[io,h]
theorem arT (h:decide (op<0)=true):io op l a b=false:=by
 have:=thm3 h
 simp[io,ij (show¬0<=op by omega)]
theorem arU (h:decide (12<op)=true):io op l a b=false:=by
 have:=thm3 h
 simp[io,ij (show¬op<=12 by omega)]
theorem kd_w (h:(l==32)=false) (h':(l==64)=false):io op l a b=false:=by simp[io,mz,h,h']
theorem ce (h0:kmay a=true) (h1:kmay b=true) (h2:decide (op<0)=false) (h3:decide (12<op)=false) (h4:mz l=true):io op l a b=true/\okop op l=true:=by
 have h2:=thm2 h2
 have h3:=thm2 h3
 simp[io,okop,h0,h1,h4,fQ (show 0<=op by omega),fQ (show op<=12 by omega)]
theorem akI (hg:io op l a b=true/\okop op l=true) (h:(bits .or .u64 (kcut a l).m (kcut b l).m==0)=true):kone (if okop op l=true then zdo op l (kcut a l).v (kcut b l).v else 0)=kdo op l a b:=by
 unfold kdo;rw[if_pos hg.1,if_pos h,if_pos hg.2]
theorem cn {X:Kn} (hg:io op l a b=true/\okop op l=true) (h:(bits .or .u64 (kcut a l).m (kcut b l).m==0)=false) (e:kop op l (kcut a l) (kcut b l)=X):kcut X l=kdo op l a b:=by
 unfold kdo;rw[if_pos hg.1,if_neg (by rw[h];simp),e]
theorem abn (h:op=6\/op=7\/op=12) (c:(bits .and .u64 b.m (l-1)==0)=true):kop op l a b=akH op l a b:=by
 unfold kop;rcases h with rfl | rfl | rfl<;>simp[c]
theorem abo (h:op=6\/op=7\/op=12) (c:(bits .and .u64 b.m (l-1)==0)=false):kop op l a b=kall:=by
 unfold kop;rcases h with rfl | rfl | rfl<;>simp[c]
end
end Go.Proofs.YtfkhblmeioiciaaGreatDoor
