import Derived.Test.YtfkhblmeioiciaaGreatDoorXbL
import Derived.Test.YtfkhblmeioiciaaGreatDoorKxZ
import Derived.Test.YtfkhblmeioiciaaGreatDoorProg
import Derived.Laws.Externs
set_option linter.unusedVariables false
set_option linter.unusedSimpArgs false
namespace Go.Proofs.YtfkhblmeioiciaaGreatDoor
open Go.RowKit Go.ChangeShapes Go.WideShapes
def okop (op l:Int):Bool:=(decide (0≤op)&&decide (op≤12))&&gY l
theorem oh {x:Int} (h:0≤x∧x≤18446744073709551615):inK .u64 x=true:=by
 rw[aT]; simpa[IntKind.min,IntKind.max,IntKind.signed,IntKind.bits] using h
theorem acQ {x:Int} (h : -9223372036854775808≤x∧x≤9223372036854775807):inK .i64 x=true:=by
 rw[aT]; simpa[IntKind.min,IntKind.max,IntKind.signed,IntKind.bits] using h
def tys_XbC:List (Nat×TI):=[(2,⟨false,1,[.int .i64 (.lit 0)],[],none,some .i64,false,false,none,8,false,none,false,0⟩),
 (42,⟨false,1,[.int .u64 (.lit 0)],[],none,some .u64,false,false,none,8,false,none,false,0⟩),
 (44,⟨true,4,(zN 4 2211),[(0,42),(1,42),(2,2),(3,2)],none,none,false,false,none,32,false,none,false,0⟩)]
set_option maxRecDepth 100000 in
theorem zJ:(tys_XbC.all fun p=>ckTI Tryz.prog p.1 p.2)=true:=by kernel_rfl
theorem qn:(tys_XbC.all fun p=>!p.2.eqok)=true:=by kernel_rfl
theorem zr:(tys_XbC.all fun p=>!p.2.keyok)=true:=by kernel_rfl
theorem zm:∀t i,(t,i)∈tys_XbC→TIok Tryz.prog t i:=by
 intro t i h
 refine bI (cM (f:=ckTI Tryz.prog) zJ h) (fun he=> ?_) (fun he=> ?_) (fun he=> ?_)
 ·have h1:=List.all_eq_true.1 qn (t,i) h
  simp[he] at h1
 ·have h1:=List.all_eq_true.1 qn (t,i) h
  simp[he] at h1
 ·have h1:=List.all_eq_true.1 zr (t,i) h
  simp[he] at h1
def io (key:Nat):Sm:=⟨242,key,[.one (.int .u64),.one (.int .u64),.one (.lit .u64 0)],[.one (.int .u64),.one (.int .u64)],true⟩
def ij (x:Int) (y:Int):List Dt:=[.z ((x+y) % 18446744073709551616),.z ((x+y) / 18446744073709551616)]
def fC:List Dt→List Dt
 | [.z x0,.z x1]=>ij x0 x1
 | _=>[]
theorem aej (x:Int) (hx:inK .u64 x=true) (y:Int) (hy:inK .u64 y=true):(∀w,(callFunc 242 #[.int .u64 x,.int .u64 y,.int .u64 0]).run Tryz.prog w=.ok (.value (.tuple #[.int .u64 ((x+y) % 18446744073709551616),.int .u64 ((x+y) / 18446744073709551616)])) w)∧gq (.tuple #[.int .u64 ((x+y) % 18446744073709551616),.int .u64 ((x+y) / 18446744073709551616)])=true:=by
 have gx:=bw hx
 have gy:=bw hy
 refine⟨fun w=> ?_,?_⟩
 ·rw[run_callFunc_extern Tryz.func242 (by kernel_rfl) (by kernel_rfl) (by kernel_rfl) (e:=add64Entry) (by kernel_rfl),run_add64 x y 0 gx.1 gy.1 (by omega) (by omega)]
  simp only[Result.andThen,Int.add_zero]
 ·have h1:inK .u64 ((x+y) % 18446744073709551616)=true:=oh (by omega)
  have h2:inK .u64 ((x+y) / 18446744073709551616)=true:=oh (by omega)
  simp[gq,fd,fu,h1,h2]
theorem aeT {sp:Spec} {key:Nat} (hF:sp.F key=fC):SmOk Tryz.prog sp (io key):=by
 refine SmOk.pure hF rfl rfl fun xs vals w h=> ?_
 obtain⟨_,_,_,rfl,⟨x0,rfl,rfl,gx0⟩,h⟩:=h
 obtain⟨_,_,_,rfl,⟨x1,rfl,rfl,gx1⟩,h⟩:=h
 obtain⟨_,_,_,rfl,⟨rfl,rfl⟩,h⟩:=h
 obtain⟨rfl,rfl⟩:=h
 have q:=aej x0 gx0 x1 gx1
 refine⟨_,.inl (q.1 w),?_,fun ρ v0 nid j he=> ?_⟩
 ·have q2:=q.2
  simp[gq,fd,fu] at q2
  simp[io,fC,ij,List.flatMap_cons,List.flatMap_nil,Sh.cks,List.append_nil,List.cons_append,List.nil_append,b2i_one,dU,q2]
 ·simp only[io,fC,ij,List.flatMap_cons,List.flatMap_nil,Sh.cks,List.append_nil,List.cons_append,List.nil_append,b2i_one,eqs,dI,dB,List.getElem?_cons_zero,List.getElem?_cons_succ,Nat.zero_add,Nat.add_zero,Nat.reduceAdd,and_true] at he
  simp[io,fC,ij,List.flatMap_cons,List.flatMap_nil,Sh.cks,List.append_nil,List.cons_append,List.nil_append,b2i_one,dT,aQ,ax,V.den,C.den,denL,den0,aU,E.I,E.B,he]
def rb (key:Nat):Sm:=⟨222,key,[.one (.int .u64)],[.one (.int .i64)],false⟩
def qU (x:Int):List Dt:=[.z ((au x.toNat:Int))]
def ny:List Dt→List Dt
 | [.z x0]=>qU x0
 | _=>[]
theorem aj3 (x:Int) (hx:inK .u64 x=true):(∀w,Calls Tryz.prog 222 #[.int .u64 x] w fun e w'=>e=.returned (.int .i64 ((au x.toNat:Int)))∧Ext w w')∧gq (.int .i64 ((au x.toNat:Int)))=true:=by
 have g:=bw hx
 have hb:au x.toNat≤64:=dm (by omega)
 have h:inK .i64 (au x.toNat:Int)=true:=acQ (by omega)
 exact⟨fun w=>alp x g.1 g.2 w w (Ext.refl w),h⟩
theorem akC {sp:Spec} {key:Nat} (hF:sp.F key=ny):SmOk Tryz.prog sp (rb key):=by
 refine SmOk.pure hF rfl rfl fun xs vals w h=> ?_
 obtain⟨_,_,_,rfl,⟨x0,rfl,rfl,gx0⟩,h⟩:=h
 obtain⟨rfl,rfl⟩:=h
 have q:=aj3 x0 gx0
 refine⟨_,.inr ⟨cB Tryz.func222 (by kernel_rfl) (by kernel_rfl) _ w,q.1 w⟩,?_,fun ρ v0 nid j he=> ?_⟩
 ·have q2:=q.2
  simp[gq,fd,fu] at q2
  simp[rb,ny,qU,List.flatMap_cons,List.flatMap_nil,Sh.cks,List.append_nil,List.cons_append,List.nil_append,b2i_one,dU,q2]
 ·simp only[rb,ny,qU,List.flatMap_cons,List.flatMap_nil,Sh.cks,List.append_nil,List.cons_append,List.nil_append,b2i_one,eqs,dI,dB,List.getElem?_cons_zero,List.getElem?_cons_succ,Nat.zero_add,Nat.add_zero,Nat.reduceAdd,and_true] at he
  simp[rb,ny,qU,List.flatMap_cons,List.flatMap_nil,Sh.cks,List.append_nil,List.cons_append,List.nil_append,b2i_one,dT,aQ,ax,V.den,C.den,denL,den0,aU,E.I,E.B,he]
def xU (key:Nat):Sm:=⟨224,key,[.one (.int .u64)],[.one (.int .i64)],false⟩
def xP (x:Int):List Dt:=[.z (64-(au x.toNat:Int))]
def rn:List Dt→List Dt
 | [.z x0]=>xP x0
 | _=>[]
theorem alN (x:Int) (hx:inK .u64 x=true):(∀w,Calls Tryz.prog 224 #[.int .u64 x] w fun e w'=>e=.returned (.int .i64 (64-(au x.toNat:Int)))∧Ext w w')∧gq (.int .i64 (64-(au x.toNat:Int)))=true:=by
 have g:=bw hx
 have hb:au x.toNat≤64:=dm (by omega)
 have h:inK .i64 (64-(au x.toNat:Int))=true:=acQ (by omega)
 exact⟨fun w=>b_lz x g.1 g.2 w w (Ext.refl w),h⟩
theorem akB {sp:Spec} {key:Nat} (hF:sp.F key=rn):SmOk Tryz.prog sp (xU key):=by
 refine SmOk.pure hF rfl rfl fun xs vals w h=> ?_
 obtain⟨_,_,_,rfl,⟨x0,rfl,rfl,gx0⟩,h⟩:=h
 obtain⟨rfl,rfl⟩:=h
 have q:=alN x0 gx0
 refine⟨_,.inr ⟨cB Tryz.func224 (by kernel_rfl) (by kernel_rfl) _ w,q.1 w⟩,?_,fun ρ v0 nid j he=> ?_⟩
 ·have q2:=q.2
  simp[gq,fd,fu] at q2
  simp[xU,rn,xP,List.flatMap_cons,List.flatMap_nil,Sh.cks,List.append_nil,List.cons_append,List.nil_append,b2i_one,dU,q2]
 ·simp only[xU,rn,xP,List.flatMap_cons,List.flatMap_nil,Sh.cks,List.append_nil,List.cons_append,List.nil_append,b2i_one,eqs,dI,dB,List.getElem?_cons_zero,List.getElem?_cons_succ,Nat.zero_add,Nat.add_zero,Nat.reduceAdd,and_true] at he
  simp[xU,rn,xP,List.flatMap_cons,List.flatMap_nil,Sh.cks,List.append_nil,List.cons_append,List.nil_append,b2i_one,dT,aQ,ax,V.den,C.den,denL,den0,aU,E.I,E.B,he]
def abH (key:Nat):Sm:=⟨223,key,[.agg kRg,.agg kRg,.one .bool],[.agg kRg],false⟩
def aaT (a:Rg) (b:Rg) (t:Bool):List Dt:=[.z ((xsum t a b).ul),.z ((xsum t a b).uh),.z ((xsum t a b).sl),.z ((xsum t a b).sh)]
def rk:List Dt→List Dt
 | [.z x0,.z x1,.z x2,.z x3,.z x4,.z x5,.z x6,.z x7,.z x8]=>aaT ⟨x0,x1,x2,x3⟩ ⟨x4,x5,x6,x7⟩ (x8==1)
 | _=>[]
def sT_sum:Tr:=
(.call 0 (kRg) .nil 9
(.br (.bvar 8)
(.br (.lt (.var 0) (.var 5))
(.call 3 [.int .i64,.bool] (.cons (.var 2) (.cons (.var 7) .nil)) 13
(.call 3 [.int .i64,.bool] (.cons (.var 3) (.cons (.var 6) .nil)) 15
(.br (.bvar 14)
(.br (.bvar 16)
(.leaf (.vs 9 2 (.cons (.var 13) (.cons (.var 15) .nil))))
(.leaf (.vs 9 4 .nil)))
(.leaf (.vs 9 4 .nil)))))
(.call 3 [.int .i64,.bool] (.cons (.var 2) (.cons (.var 7) .nil)) 13
(.call 3 [.int .i64,.bool] (.cons (.var 3) (.cons (.var 6) .nil)) 15
(.br (.bvar 14)
(.br (.bvar 16)
(.leaf (.cons (.bin .sub .u64 (.var 0) (.var 5)) (.cons (.bin .sub .u64 (.var 1) (.var 4)) (.cons (.var 13) (.cons (.var 15) .nil)))))
(.leaf (.cons (.bin .sub .u64 (.var 0) (.var 5)) (.cons (.bin .sub .u64 (.var 1) (.var 4)) (.vs 11 2 .nil)))))
(.leaf (.cons (.bin .sub .u64 (.var 0) (.var 5)) (.cons (.bin .sub .u64 (.var 1) (.var 4)) (.vs 11 2 .nil))))))))
(.call 1 [.int .u64,.int .u64] (.cons (.var 1) (.cons (.var 5) .nil)) 13
(.br (.eq (.var 14) (.lit 0))
(.call 2 [.int .i64,.bool] (.cons (.var 2) (.cons (.var 6) .nil)) 15
(.call 2 [.int .i64,.bool] (.cons (.var 3) (.cons (.var 7) .nil)) 17
(.br (.bvar 16)
(.br (.bvar 18)
(.leaf (.cons (.bin .add .u64 (.var 0) (.var 4)) (.cons (.var 13) (.cons (.var 15) (.cons (.var 17) .nil)))))
(.leaf (.cons (.bin .add .u64 (.var 0) (.var 4)) (.cons (.var 13) (.vs 11 2 .nil)))))
(.leaf (.cons (.bin .add .u64 (.var 0) (.var 4)) (.cons (.var 13) (.vs 11 2 .nil)))))))
(.call 2 [.int .i64,.bool] (.cons (.var 2) (.cons (.var 6) .nil)) 15
(.call 2 [.int .i64,.bool] (.cons (.var 3) (.cons (.var 7) .nil)) 17
(.br (.bvar 16)
(.br (.bvar 18)
(.leaf (.vs 9 2 (.cons (.var 15) (.cons (.var 17) .nil))))
(.leaf (.vs 9 4 .nil)))
(.leaf (.vs 9 4 .nil)))))))))
def afU:Spec:={F:=fun k=>match k with | 0=>bt | 1=>fC | 2=>lQ | 3=>iC | _=>fun _=>[],pre:=fun k=>match k with | _=>fun _=>True}
set_option maxRecDepth 100000 in
theorem akg:am tys_XbC [eB 0,io 1,tH 2,pb 3] [] [] [] 200 Tryz.f223 [.agg kRg,.agg kRg,.one .bool] [.agg kRg] false [.int .u64,.int .u64,.int .i64,.int .i64,.int .u64,.int .u64,.int .i64,.int .i64,.bool] sT_sum:=⟨by kernel_rfl,by kernel_rfl,by kernel_rfl⟩
set_option maxRecDepth 100000 in
set_option maxHeartbeats 8000000 in
theorem ajX (a:Rg) (ha:Rg.ok a) (b:Rg) (hb:Rg.ok b) (t:Bool) (ρ:Env) (g:af ρ 0 [.int .u64,.int .u64,.int .i64,.int .i64,.int .u64,.int .u64,.int .i64,.int .i64,.bool]=[.z a.ul,.z a.uh,.z a.sl,.z a.sh,.z b.ul,.z b.uh,.z b.sl,.z b.sh,.z (b2i t)]):sT_sum.asks afU (fun ρ e=>e.D ρ=rk [.z a.ul,.z a.uh,.z a.sl,.z a.sh,.z b.ul,.z b.uh,.z b.sl,.z b.sh,.z (b2i t)]) ρ fun _ _=>False:=by
 simp only[af,varD,List.cons.injEq,Dt.z.injEq,Dt.l.injEq,b2i_eq_iff,Nat.reduceAdd,and_true] at g
 simp only[sT_sum,afU,kRg,bt,fC,lQ,iC,ij,td,oK,rk,aaT,Tr.asks,ai,okDs,okD,eqs,E.I,E.B,E.L,E.R,E.D,E.vs,E.gs,E.ins,E.sv,E.tn,E.iv,E.zs,E.pv,Nat.reduceSub,dI,dB,dL,varD,af,S1,Nat.reduceAdd,-eq_self,Pi.eta,Pu.eta,Rg.eta,g]
 intro e; (try simp only[e,Pi.eta,Pu.eta,Rg.eta,-eq_self]); clear e
 constructor<;>intro c0
 constructor<;>intro c1
 intro e; (try simp only[e,Pi.eta,Pu.eta,Rg.eta,-eq_self]); clear e
 intro e; (try simp only[e,Pi.eta,Pu.eta,Rg.eta,-eq_self]); clear e
 constructor<;>intro c2
 constructor<;>intro c3
 ·(subst c0; exact agg4 (nR c1).1 (nR c1).2 (xh c2 c3).1 (xh c2 c3).2)
 ·(subst c0; exact agg4 (nR c1).1 (nR c1).2 (ko (.inr c3)).1 (ko (.inr c3)).2)
 ·(subst c0; exact agg4 (nR c1).1 (nR c1).2 (ko (.inl c2)).1 (ko (.inl c2)).2)
 intro e; (try simp only[e,Pi.eta,Pu.eta,Rg.eta,-eq_self]); clear e
 intro e; (try simp only[e,Pi.eta,Pu.eta,Rg.eta,-eq_self]); clear e
 constructor<;>intro c4
 constructor<;>intro c5
 ·(subst c0; exact agg4 (nQ c1).1 (nQ c1).2 (xh c4 c5).1 (xh c4 c5).2)
 ·(subst c0; exact agg4 (nQ c1).1 (nQ c1).2 (ko (.inr c5)).1 (ko (.inr c5)).2)
 ·(subst c0; exact agg4 (nQ c1).1 (nQ c1).2 (ko (.inl c4)).1 (ko (.inl c4)).2)
 intro e; (try simp only[e,Pi.eta,Pu.eta,Rg.eta,-eq_self]); clear e
 constructor<;>intro c6
 intro e; (try simp only[e,Pi.eta,Pu.eta,Rg.eta,-eq_self]); clear e
 intro e; (try simp only[e,Pi.eta,Pu.eta,Rg.eta,-eq_self]); clear e
 constructor<;>intro c7
 constructor<;>intro c8
 ·(subst c0; exact agg4 (nc ha hb c6).1 (nc ha hb c6).2 (vd c7 c8).1 (vd c7 c8).2)
 ·(subst c0; exact agg4 (nc ha hb c6).1 (nc ha hb c6).2 (jX (.inr c8)).1 (jX (.inr c8)).2)
 ·(subst c0; exact agg4 (nc ha hb c6).1 (nc ha hb c6).2 (jX (.inl c7)).1 (jX (.inl c7)).2)
 intro e; (try simp only[e,Pi.eta,Pu.eta,Rg.eta,-eq_self]); clear e
 intro e; (try simp only[e,Pi.eta,Pu.eta,Rg.eta,-eq_self]); clear e
 constructor<;>intro c9
 constructor<;>intro c10
 ·(subst c0; exact agg4 (nf ha hb c6).1 (nf ha hb c6).2 (vd c9 c10).1 (vd c9 c10).2)
 ·(subst c0; exact agg4 (nf ha hb c6).1 (nf ha hb c6).2 (jX (.inr c10)).1 (jX (.inr c10)).2)
 ·(subst c0; exact agg4 (nf ha hb c6).1 (nf ha hb c6).2 (jX (.inl c9)).1 (jX (.inl c9)).2)
theorem akz {sp:Spec} {key:Nat} (hF:sp.F key=rk) (hP:sp.pre key=fun _=>True:=by rfl):SmOk Tryz.prog sp (abH key):=
 an (s:=abH key) hF hP (by kernel_rfl) zm (smc (fY rfl) (smc (aeT rfl) (smc (aim rfl) (smc (aeN rfl) sm0)))) Tryz.func223 fn0 akg (.inl rfl) (fun x0 gx0 x1 gx1 x2 gx2 x3 gx3 x4 gx4 x5 gx5 x6 gx6 x7 gx7 x8 hp ρ g=>ajX ⟨x0,x1,x2,x3⟩ ⟨gx0,gx1,gx2,gx3⟩ ⟨x4,x5,x6,x7⟩ ⟨gx4,gx5,gx6,gx7⟩ x8 ρ g)
end Go.Proofs.YtfkhblmeioiciaaGreatDoor
set_option linter.unusedVariables false
set_option linter.unusedSimpArgs false
namespace Go.Proofs.YtfkhblmeioiciaaGreatDoor
open Go.RowKit Go.ChangeShapes Go.WideShapes
def tys_XbD:List (Nat×TI):=[(2,⟨false,1,[.int .i64 (.lit 0)],[],none,some .i64,false,false,none,8,false,none,false,0⟩),
 (3,⟨false,1,[.int .i64 (.lit 0)],[],none,some .i64,false,false,none,8,false,none,false,0⟩),
 (37,⟨false,1,[.int .i8 (.lit 0)],[],none,some .i8,false,false,none,1,false,none,false,0⟩),
 (42,⟨false,1,[.int .u64 (.lit 0)],[],none,some .u64,false,false,none,8,false,none,false,0⟩),
 (44,⟨true,4,(zN 4 2211),[(0,42),(1,42),(2,2),(3,2)],none,none,false,false,none,32,false,none,false,0⟩),
 (105,⟨false,1,[.int .u64 (.lit 0)],[],none,some .u64,false,false,none,8,false,none,false,0⟩)]
set_option maxRecDepth 100000 in
theorem zI:(tys_XbD.all fun p=>ckTI Tryz.prog p.1 p.2)=true:=by kernel_rfl
theorem qm:(tys_XbD.all fun p=>!p.2.eqok)=true:=by kernel_rfl
theorem zq:(tys_XbD.all fun p=>!p.2.keyok)=true:=by kernel_rfl
theorem zl:∀t i,(t,i)∈tys_XbD→TIok Tryz.prog t i:=by
 intro t i h
 refine bI (cM (f:=ckTI Tryz.prog) zI h) (fun he=> ?_) (fun he=> ?_) (fun he=> ?_)
 ·have h1:=List.all_eq_true.1 qm (t,i) h
  simp[he] at h1
 ·have h1:=List.all_eq_true.1 qm (t,i) h
  simp[he] at h1
 ·have h1:=List.all_eq_true.1 zq (t,i) h
  simp[he] at h1
def aeC (key:Nat):Sm:=⟨188,key,[.one (.int .i8),.agg kRg,.agg kRg],[.agg kRg],false⟩
def aek (op:Int) (a:Rg) (b:Rg):List Dt:=[.z ((bdo op a b).ul),.z ((bdo op a b).uh),.z ((bdo op a b).sl),.z ((bdo op a b).sh)]
def tW:List Dt→List Dt
 | [.z x0,.z x1,.z x2,.z x3,.z x4,.z x5,.z x6,.z x7,.z x8]=>aek x0 ⟨x1,x2,x3,x4⟩ ⟨x5,x6,x7,x8⟩
 | _=>[]
def sT_do:Tr:=
(.call 0 [.bool] (.vs 1 4 .nil) 9
(.br (.bvar 9)
(.call 0 [.bool] (.vs 5 4 .nil) 10
(.br (.bvar 10)
(.call 1 (kRg) .nil 11
(.call 2 [.int .u64,.bool] (.vs 5 4 .nil) 15
(.call 3 [.int .i64] (.cons (.mx (.var 2) (.var 6)) .nil) 17
(.br (.lt (.var 17) (.lit 0))
.panic
(.br (.eq (.var 0) (.lit 11))
(.call 6 (kRg) (.vs 5 4 .nil) 18
(.leaf (.vs 18 4 .nil)))
(.br (.eq (.var 0) (.lit 0))
(.call 5 (kRg) (.vs 1 8 (.consb (.eq (.var 0) (.lit 1)) .nil)) 18
(.call 6 (kRg) (.vs 18 4 .nil) 22
(.leaf (.vs 22 4 .nil))))
(.br (.eq (.var 0) (.lit 1))
(.call 5 (kRg) (.vs 1 8 (.consb (.eq (.var 0) (.lit 1)) .nil)) 18
(.call 6 (kRg) (.vs 18 4 .nil) 22
(.leaf (.vs 22 4 .nil))))
(.br (.eq (.var 0) (.lit 5))
(.call 6 (kRg) (.cons (.var 11) (.cons (.mn (.var 2) (.var 6)) (.vs 13 2 .nil))) 18
(.leaf (.vs 18 4 .nil)))
(.br (.eq (.var 0) (.lit 4))
(.call 6 (kRg) (.cons (.mx (.var 1) (.var 5)) (.cons (.bin .sub .u64 (.bin .shl .u64 (.lit 1) (.var 17)) (.lit 1)) (.vs 13 2 .nil))) 18
(.leaf (.vs 18 4 .nil)))
(.br (.eq (.var 0) (.lit 10))
(.call 6 (kRg) (.cons (.var 11) (.cons (.bin .sub .u64 (.bin .shl .u64 (.lit 1) (.var 17)) (.lit 1)) (.vs 13 2 .nil))) 18
(.leaf (.vs 18 4 .nil)))
(.br (.eq (.var 0) (.lit 3))
(.br (.lt (.lit 0) (.var 5))
(.br (.eq (.var 6) (.lit 0))
.panic
(.br (.eq (.var 5) (.lit 0))
.panic
(.call 6 (kRg) (.cons (.bin .quo .u64 (.var 1) (.var 6)) (.cons (.bin .quo .u64 (.var 2) (.var 5)) (.vs 13 2 .nil))) 18
(.leaf (.vs 18 4 .nil)))))
(.call 6 (kRg) (.cons (.var 11) (.cons (.var 2) (.vs 13 2 .nil))) 18
(.leaf (.vs 18 4 .nil))))
(.br (.eq (.var 0) (.lit 9))
(.br (.lt (.lit 0) (.var 5))
(.call 6 (kRg) (.cons (.var 11) (.cons (.mn (.var 2) (.bin .sub .u64 (.var 6) (.lit 1))) (.vs 13 2 .nil))) 18
(.leaf (.vs 18 4 .nil)))
(.call 6 (kRg) (.cons (.var 11) (.cons (.var 2) (.vs 13 2 .nil))) 18
(.leaf (.vs 18 4 .nil))))
(.br (.eq (.var 0) (.lit 7))
(.br (.bvar 16)
(.call 6 (kRg) (.cons (.bin .shr .u64 (.var 1) (.bin .and .u64 (.var 15) (.lit 63))) (.cons (.bin .shr .u64 (.var 2) (.bin .and .u64 (.var 15) (.lit 63))) (.vs 13 2 .nil))) 18
(.leaf (.vs 18 4 .nil)))
(.call 6 (kRg) (.vs 11 4 .nil) 18
(.leaf (.vs 18 4 .nil))))
(.br (.eq (.var 0) (.lit 6))
(.br (.bvar 16)
(.call 4 [.int .i64] (.cons (.var 2) .nil) 18
(.br (.lt (.var 18) (.conv .i64 (.bin .and .u64 (.var 15) (.lit 63))))
(.call 6 (kRg) (.vs 11 4 .nil) 19
(.leaf (.vs 19 4 .nil)))
(.call 6 (kRg) (.cons (.bin .shl .u64 (.var 1) (.bin .and .u64 (.var 15) (.lit 63))) (.cons (.bin .shl .u64 (.var 2) (.bin .and .u64 (.var 15) (.lit 63))) (.vs 13 2 .nil))) 19
(.leaf (.vs 19 4 .nil)))))
(.call 6 (kRg) (.vs 11 4 .nil) 18
(.leaf (.vs 18 4 .nil))))
(.call 6 (kRg) (.vs 11 4 .nil) 18
(.leaf (.vs 18 4 .nil)))))))))))))))))
(.call 1 (kRg) .nil 11
(.leaf (.vs 11 4 .nil)))))
(.call 1 (kRg) .nil 10
(.leaf (.vs 10 4 .nil)))))
def akw:Spec:={F:=fun k=>match k with | 0=>cZ | 1=>bt | 2=>cY | 3=>ny | 4=>rn | 5=>rk | 6=>gH | _=>fun _=>[],pre:=fun k=>match k with | _=>fun _=>True}
set_option maxRecDepth 100000 in
theorem alR:am tys_XbD [jZ 0,eB 1,il 2,rb 3,xU 4,abH 5,pa 6] [] [] [] 200 Tryz.f188 [.one (.int .i8),.agg kRg,.agg kRg] [.agg kRg] false [.int .i8,.int .u64,.int .u64,.int .i64,.int .i64,.int .u64,.int .u64,.int .i64,.int .i64] sT_do:=⟨by kernel_rfl,by kernel_rfl,by kernel_rfl⟩
set_option maxRecDepth 100000 in
set_option maxHeartbeats 8000000 in
theorem alO (op:Int) (hop:inK .i8 op=true) (a:Rg) (ha:Rg.ok a) (b:Rg) (hb:Rg.ok b) (ρ:Env) (g:af ρ 0 [.int .i8,.int .u64,.int .u64,.int .i64,.int .i64,.int .u64,.int .u64,.int .i64,.int .i64]=[.z op,.z a.ul,.z a.uh,.z a.sl,.z a.sh,.z b.ul,.z b.uh,.z b.sl,.z b.sh]):sT_do.asks akw (fun ρ e=>e.D ρ=tW [.z op,.z a.ul,.z a.uh,.z a.sl,.z a.sh,.z b.ul,.z b.uh,.z b.sl,.z b.sh]) ρ fun _ _=>False:=by
 simp only[af,varD,List.cons.injEq,Dt.z.injEq,Dt.l.injEq,b2i_eq_iff,Nat.reduceAdd,and_true] at g
 simp only[sT_do,akw,kRg,cZ,bt,cY,ny,rn,rk,gH,jY,ic,qU,xP,aaT,oJ,tW,aek,Tr.asks,ai,okDs,okD,eqs,E.I,E.B,E.L,E.R,E.D,E.vs,E.gs,E.ins,E.sv,E.tn,E.iv,E.zs,E.pv,Nat.reduceSub,dI,dB,dL,varD,af,S1,Nat.reduceAdd,-eq_self,Pi.eta,Pu.eta,Rg.eta,g]
 intro e; (try simp only[e,Pi.eta,Pu.eta,Rg.eta,-eq_self]); clear e
 constructor<;>intro c0
 intro e; (try simp only[e,Pi.eta,Pu.eta,Rg.eta,-eq_self]); clear e
 constructor<;>intro c1
 intro e; (try simp only[e,Pi.eta,Pu.eta,Rg.eta,-eq_self]); clear e
 intro e; (try simp only[e,Pi.eta,Pu.eta,Rg.eta,-eq_self]); clear e
 intro e; (try simp only[e,Pi.eta,Pu.eta,Rg.eta,-eq_self]); clear e
 constructor<;>intro c2
 ·exact absurd (of_decide_eq_true c2) (by omega)
 constructor<;>intro c3
 intro e; (try simp only[e,Pi.eta,Pu.eta,Rg.eta,-eq_self]); clear e
 ·exact cj (amh ha hb c0 c1 c3)
 constructor<;>intro c4
 intro e; (try simp only[e,Pi.eta,Pu.eta,Rg.eta,-eq_self]); clear e
 intro e; (try simp only[e,Pi.eta,Pu.eta,Rg.eta,-eq_self]); clear e
 ·exact cj (dq_0 ha hb c0 c1 c4)
 constructor<;>intro c5
 intro e; (try simp only[e,Pi.eta,Pu.eta,Rg.eta,-eq_self]); clear e
 intro e; (try simp only[e,Pi.eta,Pu.eta,Rg.eta,-eq_self]); clear e
 ·exact cj (dq_1 ha hb c0 c1 c5)
 constructor<;>intro c6
 intro e; (try simp only[e,Pi.eta,Pu.eta,Rg.eta,-eq_self]); clear e
 ·exact cj (dq_5 ha hb c0 c1 c6)
 constructor<;>intro c7
 intro e; (try simp only[e,Pi.eta,Pu.eta,Rg.eta,-eq_self]); clear e
 ·exact cj (dq_4 ha hb c0 c1 c7)
 constructor<;>intro c8
 intro e; (try simp only[e,Pi.eta,Pu.eta,Rg.eta,-eq_self]); clear e
 ·exact cj (ami ha hb c0 c1 c8)
 constructor<;>intro c9
 constructor<;>intro c10
 constructor<;>intro c11
 ·(have hm:=(ce b).1 c1; have h1:=of_decide_eq_true c10; have h2:=eqz c11; omega)
 constructor<;>intro c12
 ·(have hm:=(ce b).1 c1; have h1:=of_decide_eq_true c10; have h2:=eqz c12; omega)
 intro e; (try simp only[e,Pi.eta,Pu.eta,Rg.eta,-eq_self]); clear e
 ·exact cj (dq_3 ha hb c0 c1 c9 c10)
 intro e; (try simp only[e,Pi.eta,Pu.eta,Rg.eta,-eq_self]); clear e
 ·exact cj (amg ha hb c0 c1 c9 c10)
 constructor<;>intro c13
 constructor<;>intro c14
 intro e; (try simp only[e,Pi.eta,Pu.eta,Rg.eta,-eq_self]); clear e
 ·exact cj (dq_9 ha hb c0 c1 c13 c14)
 intro e; (try simp only[e,Pi.eta,Pu.eta,Rg.eta,-eq_self]); clear e
 ·exact cj (amc ha hb c0 c1 c13 c14)
 constructor<;>intro c15
 constructor<;>intro c16
 intro e; (try simp only[e,Pi.eta,Pu.eta,Rg.eta,-eq_self]); clear e
 ·exact cj (dq_7 ha hb c0 c1 c15 c16)
 intro e; (try simp only[e,Pi.eta,Pu.eta,Rg.eta,-eq_self]); clear e
 ·exact cj (amd ha hb c0 c1 c15 c16)
 constructor<;>intro c17
 constructor<;>intro c18
 intro e; (try simp only[e,Pi.eta,Pu.eta,Rg.eta,-eq_self]); clear e
 constructor<;>intro c19
 intro e; (try simp only[e,Pi.eta,Pu.eta,Rg.eta,-eq_self]); clear e
 ·exact cj (ame ha hb c0 c1 c17 c18 c19)
 intro e; (try simp only[e,Pi.eta,Pu.eta,Rg.eta,-eq_self]); clear e
 ·exact cj (dq_6 ha hb c0 c1 c17 c18 c19)
 intro e; (try simp only[e,Pi.eta,Pu.eta,Rg.eta,-eq_self]); clear e
 ·exact cj (amf ha hb c0 c1 c17 c18)
 intro e; (try simp only[e,Pi.eta,Pu.eta,Rg.eta,-eq_self]); clear e
 ·exact cj (dq_x ha hb c0 c1 c3 c4 c5 c6 c7 c8 c9 c13 c15 c17)
 intro e; (try simp only[e,Pi.eta,Pu.eta,Rg.eta,-eq_self]); clear e
 ·exact cj (agy (.inr c1))
 intro e; (try simp only[e,Pi.eta,Pu.eta,Rg.eta,-eq_self]); clear e
 ·exact cj (agy (.inl c0))
theorem akH {sp:Spec} {key:Nat} (hF:sp.F key=tW) (hP:sp.pre key=fun _=>True:=by rfl):SmOk Tryz.prog sp (aeC key):=
 an (s:=aeC key) hF hP (by kernel_rfl) zl (smc (nv rfl) (smc (fY rfl) (smc (rg rfl) (smc (akC rfl) (smc (akB rfl) (smc (akz rfl) (smc (abQ rfl) sm0))))))) Tryz.func188 fn0 alR (.inl rfl) (fun x0 gx0 x1 gx1 x2 gx2 x3 gx3 x4 gx4 x5 gx5 x6 gx6 x7 gx7 x8 gx8 hp ρ g=>alO x0 gx0 ⟨x1,x2,x3,x4⟩ ⟨gx1,gx2,gx3,gx4⟩ ⟨x5,x6,x7,x8⟩ ⟨gx5,gx6,gx7,gx8⟩ ρ g)
end Go.Proofs.YtfkhblmeioiciaaGreatDoor
set_option linter.unusedSectionVars false
set_option linter.unusedVariables false
set_option linter.unusedSimpArgs false
namespace Go.Proofs.YtfkhblmeioiciaaGreatDoor
open Go Go.RowKit
section
variable {a b:Rg} (ha:a.ok) (hb:b.ok)
include ha hb
end
end Go.Proofs.YtfkhblmeioiciaaGreatDoor
set_option linter.unusedVariables false
set_option linter.unusedSimpArgs false
namespace Go.Proofs.YtfkhblmeioiciaaGreatDoor
open Go.RowKit Go.ChangeShapes Go.WideShapes
def jv (key:Nat):Sm:=⟨25,key,[.one (.int .i8),.one (.int .i8),.one (.int .u64),.one (.int .u64)],[.one (.int .u64),.one (.int .i64)],true⟩
def jp (op:Int) (l:Int) (x:Int) (y:Int):List Dt:=[.z (if okop op l=true then zdo op l x y else 0),.z (if okop op l=true then 0 else 2)]
def eU:List Dt→List Dt
 | [.z x0,.z x1,.z x2,.z x3]=>jp x0 x1 x2 x3
 | _=>[]
theorem aaQ (op:Int) (hop:inK .i8 op=true) (l:Int) (hl:inK .i8 l=true) (x:Int) (hx:inK .u64 x=true) (y:Int) (hy:inK .u64 y=true):(∀w,Calls Tryz.prog 25 #[.int .i8 op,.int .i8 l,.int .u64 x,.int .u64 y] w fun e w'=>e=.returned (.tuple #[.int .u64 (if okop op l=true then zdo op l x y else 0),.int .i64 (if okop op l=true then 0 else 2)])∧Ext w w')∧gq (.tuple #[.int .u64 (if okop op l=true then zdo op l x y else 0),.int .i64 (if okop op l=true then 0 else 2)])=true:=by
 have gx:=bw hx
 have gy:=bw hy
 cases hk:okop op l
 ·refine⟨fun w=>(ald op l x y w ?_).mono ?_,by simp[gq,fd,fu]; decide⟩
  ·unfold okop at hk
   rw[Bool.and_eq_false_iff,Bool.and_eq_false_iff] at hk
   rcases hk with(hk | hk) | hk
   ·have:=of_decide_eq_false hk
    simp; omega
   ·have:=of_decide_eq_false hk
    simp; omega
   ·rw[hk]; simp
  ·rintro e w' ⟨rfl,rfl⟩
   exact⟨by simp,Ext.refl _⟩
 ·unfold okop at hk
  simp only[Bool.and_eq_true,decide_eq_true_eq] at hk
  have hz:=oh (cJ op l x y gx.1 gx.2 gy.1 gy.2)
  refine⟨fun w=>(ale op l x y w gx.1 gx.2 gy.1 gy.2 hk.1.1 hk.1.2 hk.2).mono ?_,by simp[gq,fd,fu,hz]; decide⟩
  rintro e w' ⟨rfl,hx⟩
  exact⟨by simp,hx⟩
theorem abU {sp:Spec} {key:Nat} (hF:sp.F key=eU):SmOk Tryz.prog sp (jv key):=by
 refine SmOk.pure hF rfl rfl fun xs vals w h=> ?_
 obtain⟨_,_,_,rfl,⟨x0,rfl,rfl,gx0⟩,h⟩:=h
 obtain⟨_,_,_,rfl,⟨x1,rfl,rfl,gx1⟩,h⟩:=h
 obtain⟨_,_,_,rfl,⟨x2,rfl,rfl,gx2⟩,h⟩:=h
 obtain⟨_,_,_,rfl,⟨x3,rfl,rfl,gx3⟩,h⟩:=h
 obtain⟨rfl,rfl⟩:=h
 have q:=aaQ x0 gx0 x1 gx1 x2 gx2 x3 gx3
 refine⟨_,.inr ⟨cB Tryz.func25 (by kernel_rfl) (by kernel_rfl) _ w,q.1 w⟩,?_,fun ρ v0 nid j he=> ?_⟩
 ·have q2:=q.2
  simp[gq,fd,fu] at q2
  simp[jv,eU,jp,List.flatMap_cons,List.flatMap_nil,Sh.cks,List.append_nil,List.cons_append,List.nil_append,b2i_one,dU,q2]
 ·simp only[jv,eU,jp,List.flatMap_cons,List.flatMap_nil,Sh.cks,List.append_nil,List.cons_append,List.nil_append,b2i_one,eqs,dI,dB,List.getElem?_cons_zero,List.getElem?_cons_succ,Nat.zero_add,Nat.add_zero,Nat.reduceAdd,and_true] at he
  simp[jv,eU,jp,List.flatMap_cons,List.flatMap_nil,Sh.cks,List.append_nil,List.cons_append,List.nil_append,b2i_one,dT,aQ,ax,V.den,C.den,denL,den0,aU,E.I,E.B,he]
end Go.Proofs.YtfkhblmeioiciaaGreatDoor
set_option linter.unusedVariables false
set_option linter.unusedSimpArgs false
namespace Go.Proofs.YtfkhblmeioiciaaGreatDoor
open Go Go.RowKit
structure Sc where
 ul:Int
 uh:Int
 sl:Int
 sh:Int
 v:Int
 m:Int
def Sc.r (a:Sc):Rg:=⟨a.ul,a.uh,a.sl,a.sh⟩
def Sc.k (a:Sc):Kn:=⟨a.v,a.m⟩
def sc (r:Rg) (k:Kn):Sc:=⟨r.ul,r.uh,r.sl,r.sh,k.v,k.m⟩
theorem Sc.eta_r (a:Sc):(⟨a.ul,a.uh,a.sl,a.sh⟩:Rg)=a.r:=rfl
theorem Sc.eta_k (a:Sc):(⟨a.v,a.m⟩:Kn)=a.k:=rfl
theorem Sc.eta_2 (r:Rg) (k:Kn):(⟨r.ul,r.uh,r.sl,r.sh,k.v,k.m⟩:Sc)=sc r k:=rfl
def vmay (a:Sc):Bool:=bmay a.r&&kmay a.k
def vall:Sc:=sc ball kall
def vone (v:Int):Sc:=sc (bone v) (kone v)
def vhas (a:Sc) (x:Int):Bool:=vmay a&&(bhas a.r x&&khas a.k x)
def sK (a:Sc):Bool:=vmay a&&dX a.r
def eK (a:Sc):Int:=if vmay a=true then bC a.r else 0
def kcom (r:Rg):Kn:=gP r.ul (fU (bits .xor .u64 r.ul r.uh))
def vlo (k:Kn):Rg:=⟨k.v,bits .or .u64 k.v k.m,ball.sl,ball.sh⟩
def vs1 (a:Sc):Bool:=fw a.r (vlo a.k)
def vs2 (a:Sc):Bool:=dx a.k (kcom (gV a.r (vlo a.k)))
def vst (a:Sc):Sc:=sc (gV a.r (vlo a.k)) (jJ a.k (kcom (gV a.r (vlo a.k))))
def vnok (a:Sc):Bool:=vmay a&&(vs1 a&&(vs2 a&&(vs1 (vst a)&&vs2 (vst a))))
def vnar (a:Sc):Sc:=if vnok a=true then vst (vst a) else vall
theorem vn_t {a:Sc} (h0:vmay a=true) (h1:vs1 a=true) (h2:vs2 a=true) (h3:vs1 (vst a)=true) (h4:vs2 (vst a)=true):vnar a=vst (vst a)∧vnok a=true:=by
 have h:vnok a=true:=by unfold vnok; rw[h0,h1,h2,h3,h4]; rfl
 exact⟨if_pos h,h⟩
theorem vn_f {a:Sc} (h:vmay a=false∨vs1 a=false∨vs2 a=false∨vs1 (vst a)=false∨vs2 (vst a)=false):vnar a=vall∧vnok a=false:=by
 have h:vnok a=false:=by unfold vnok; rcases h with h | h | h | h | h<;>rw[h]<;>simp
 exact⟨if_neg (by rw[h]; simp),h⟩
def vlow (a:Sc):Sc:=vnar (sc (blow a.r) (kcut a.k 32))
def vbel (t:Int):Sc:=vnar (sc ⟨0,t,ball.sl,ball.sh⟩ ⟨0,t⟩)
def vcap (r:Rg):Rg:=if r.uh<4294967296 then r else blow ball
def bV (op:Int) (a b:Sc):Rg:=
 if op=8∨op=12 then blow ball
 else if op=6∨op=7 then(if sK b=true then vcap (bdo op a.r (vone (opI .and .u64 (eK b) 31)).r) else blow ball)
 else vcap (bdo op a.r b.r)
def vhf (op w:Int) (a b:Sc):Sc:=sc (bV op (vlow a) (vlow b)) (kdo op w (vlow a).k (vlow b).k)
def vdo (op w:Int) (a b:Sc):Sc:=
 if okop op w=true∧vmay a=true∧vmay b=true then(if w=64 then vnar (sc (bdo op a.r b.r) (kdo op 64 a.k b.k)) else if vnok (vhf op w a b)=true then vnar (vhf op w a b) else vbel 4294967295) else vall
theorem aiX {b:Bool} (h:((if b=true then(0:Int) else 2)==0)=true):b=true:=by cases b<;>simp_all
theorem akW {b:Bool} (h:((if b=true then(0:Int) else 2)==0)=false):b=false:=by cases b<;>simp_all
theorem aG {r s:Kn} (h:r=s):[Dt.z r.v,.z r.m]=[Dt.z s.v,.z s.m]:=by rw[h]
theorem ak2 {r:Rg} (hr:r.wf):(⟨bits .andNot .u64 r.ul (opI .sub .u64 (opI .shl .u64 1 (opI .sub .i64 64 (64-(au (bits .xor .u64 r.ul r.uh).toNat:Int)))) 1),opI .sub .u64 (opI .shl .u64 1 (opI .sub .i64 64 (64-(au (bits .xor .u64 r.ul r.uh).toNat:Int)))) 1⟩:Kn)=kcom r:=by
 have hx:=mZ r.ul r.uh
 have hb:au (bits .xor .u64 r.ul r.uh).toNat≤64:=dm (by omega)
 have e:opI .sub .i64 64 (64-(au (bits .xor .u64 r.ul r.uh).toNat:Int))=(au (bits .xor .u64 r.ul r.uh).toNat:Int):=by
  show IntKind.i64.wrap _=_
  rw[cy]; omega
 rw[e,uz hx.1 hx.2]
 rfl
theorem ak3 {r:Rg} (hr:r.wf) (h:decide (0<64-(au (bits .xor .u64 r.ul r.uh).toNat:Int))=false):(⟨bits .andNot .u64 r.ul 18446744073709551615,18446744073709551615⟩:Kn)=kcom r:=by
 have h:=of_decide_eq_false h
 have hx:=mZ r.ul r.uh
 have hb:au (bits .xor .u64 r.ul r.uh).toNat≤64:=dm (by omega)
 have e:fU (bits .xor .u64 r.ul r.uh)=18446744073709551615:=by
  unfold fU
  rw[show au (bits .xor .u64 r.ul r.uh).toNat=64 by omega]
  rfl
 unfold kcom gP
 rw[e]
section
variable {op l:Int} {a b:Kn}
theorem rR (h:eF op l a b=false):kall=kdo op l a b:=by
 unfold kdo; rw[if_neg (by rw[h]; simp)]
theorem kd_a (h:kmay a=false):eF op l a b=false:=by simp[eF,h]
theorem kd_b (h:kmay b=false):eF op l a b=false:=by simp[eF,h]
theorem al1 (h:decide (op<0)=true):eF op l a b=false:=by
 have:=of_decide_eq_true h
 simp[eF,decide_eq_false (show¬0≤op by omega)]
theorem al2 (h:decide (12<op)=true):eF op l a b=false:=by
 have:=of_decide_eq_true h
 simp[eF,decide_eq_false (show¬op≤12 by omega)]
theorem kd_w (h:(l==32)=false) (h':(l==64)=false):eF op l a b=false:=by simp[eF,gY,h,h']
theorem bE (h0:kmay a=true) (h1:kmay b=true) (h2:decide (op<0)=false) (h3:decide (12<op)=false) (h4:gY l=true):eF op l a b=true∧okop op l=true:=by
 have h2:=of_decide_eq_false h2
 have h3:=of_decide_eq_false h3
 simp[eF,okop,h0,h1,h4,decide_eq_true (show 0≤op by omega),decide_eq_true (show op≤12 by omega)]
theorem agl (hg:eF op l a b=true∧okop op l=true) (h:(bits .or .u64 (kcut a l).m (kcut b l).m==0)=true):kone (if okop op l=true then zdo op l (kcut a l).v (kcut b l).v else 0)=kdo op l a b:=by
 unfold kdo; rw[if_pos hg.1,if_pos h,if_pos hg.2]
theorem bM {X:Kn} (hg:eF op l a b=true∧okop op l=true) (h:(bits .or .u64 (kcut a l).m (kcut b l).m==0)=false) (e:kop op l (kcut a l) (kcut b l)=X):kcut X l=kdo op l a b:=by
 unfold kdo; rw[if_pos hg.1,if_neg (by rw[h]; simp),e]
theorem yh (h:op=6∨op=7∨op=12) (c:(bits .and .u64 b.m (l-1)==0)=true):kop op l a b=wN op l a b:=by
 unfold kop; rcases h with rfl | rfl | rfl<;>simp[c]
theorem yj (h:op=6∨op=7∨op=12) (c:(bits .and .u64 b.m (l-1)==0)=false):kop op l a b=kall:=by
 unfold kop; rcases h with rfl | rfl | rfl<;>simp[c]
end
end Go.Proofs.YtfkhblmeioiciaaGreatDoor
