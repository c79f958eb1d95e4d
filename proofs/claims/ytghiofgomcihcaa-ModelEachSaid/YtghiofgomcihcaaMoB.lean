import Derived.Test.YtghiofgomcihcaaMoA
import Derived.Test.YtghiofgomcihcaaLiC
import Derived.Test.YtghiofgomcihcaaMmB
import Derived.Test.YtghiofgomcihcaaBtZ
import Derived.Test.YtghiofgomcihcaaProg
import Derived.Laws.Externs
set_option linter.unusedVariables false
set_option linter.unusedSimpArgs false
namespace Go.Proofs.Ytghiofgomcihcaa
open Go.RowKit Go.ChangeShapes Go.WideShapes
structure Mach where
 r0:Int
 r1:Int
 r2:Int
 r3:Int
 r4:Int
 r5:Int
 r6:Int
 r7:Int
 r8:Int
 r9:Int
 r10:Int
theorem Mach.eta (a:Mach):(⟨a.r0,a.r1,a.r2,a.r3,a.r4,a.r5,a.r6,a.r7,a.r8,a.r9,a.r10⟩:Mach)=a:=rfl
def Mach.ok (a:Mach):Prop:=inK .u64 a.r0=true∧inK .u64 a.r1=true∧inK .u64 a.r2=true∧inK .u64 a.r3=true∧inK .u64 a.r4=true∧inK .u64 a.r5=true∧inK .u64 a.r6=true∧inK .u64 a.r7=true∧inK .u64 a.r8=true∧inK .u64 a.r9=true∧inK .u64 a.r10=true
def acx:List CK:=[.any,.any,.any,.int .u64,.int .u64,.int .u64,.int .u64,.int .u64,.int .u64,.int .u64,.int .u64,.int .u64,.int .u64,.int .u64,.any,.any,.any,.any,.any,.any,.any,.any,.any,.any,.any,.any,.any,.any,.any,.any,.any,.any,.any,.any,.any,.any,.any,.any,.any,.any,.any,.any,.any,.any,.any,.any,.any,.any,.any,.any,.any,.any,.any,.any,.any,.any,.any,.any,.any,.any,.any,.any,.any,.any,.any,.any,.any,.any,.any,.any,.any,.any,.any,.any,.any,.any,.any,.any,.any,.any,.any,.any,.any,.any]
theorem kI {v n:Nat} {ρ σ:Env} {z:Int} (h:Ag v ρ σ) (k:ρ.i n=z) (hn:n<v:=by decide):σ.i n=z:=(h n hn).1.symm.trans k
theorem kL {v n:Nat} {ρ σ:Env} {z:List (List Int)} (h:Ag v ρ σ) (k:ρ.l n=z) (hn:n<v:=by decide):σ.l n=z:=(h n hn).2.2.symm.trans k
theorem eh {x:Int} (h:inK .u64 x=true):0≤x∧x≤18446744073709551615:=kf h
theorem tR {x:Int} (h:0≤x∧x≤18446744073709551615):inK .u64 x=true:=by
 rw[aO]; simpa[IntKind.min,IntKind.max,IntKind.signed,IntKind.bits] using h
def msec (m:Mach) (x:Ins):Int:=if x.br=true then[m.r0,m.r1,m.r2,m.r3,m.r4,m.r5,m.r6,m.r7,m.r8,m.r9,m.r10].getD x.s.toNat 0 else IntKind.u64.wrap x.imm
def tys_MoB:List (Nat×TI):=[(2,⟨false,1,[.int .i64 (.lit 0)],[],none,some .i64,false,false,none,8,false,none,false,0⟩),
 (3,⟨false,1,[.int .i64 (.lit 0)],[],none,some .i64,false,false,none,8,false,none,false,0⟩),
 (4,⟨false,1,[.bool (.tt false)],[],none,none,false,true,none,1,false,none,false,0⟩),
 (5,⟨false,1,[.int .u8 (.lit 0)],[],none,some .u8,false,false,none,1,false,none,false,0⟩),
 (22,⟨false,1,[.nsl],[],none,none,false,false,some 44,24,false,none,false,0⟩),
 (24,⟨true,2,[.int .i64 (.lit 0),.nsl],[(0,3),(1,22)],none,none,false,false,none,32,false,none,false,0⟩),
 (25,⟨false,1,[.nsl],[],none,none,false,false,some 5,24,false,none,false,0⟩),
 (26,⟨false,1,[.nsl],[],none,none,false,false,some 30,24,false,none,false,0⟩),
 (29,⟨false,1,[.int .i8 (.lit 0)],[],none,some .i8,false,false,none,1,false,none,false,0⟩),
 (30,⟨false,1,[.int .u64 (.lit 0)],[],none,some .u64,false,false,none,8,false,none,false,0⟩),
 (31,⟨false,1,[.nsl],[],none,none,false,false,some 39,24,false,none,false,0⟩),
 (39,⟨true,3,[.int .i64 (.lit 0),.nsl,.int .u64 (.lit 0)],[(0,3),(1,26),(2,30)],none,none,false,false,none,40,false,none,false,0⟩),
 (44,⟨true,9,[.int .i8 (.lit 0),.int .i8 (.lit 0),.int .i8 (.lit 0),.int .i8 (.lit 0),.bool (.tt false),.int .i8 (.lit 0),.int .i8 (.lit 0),.int .i64 (.lit 0),.int .i64 (.lit 0)],[(0,29),(1,29),(2,29),(3,29),(4,4),(5,29),(6,29),(7,3),(8,3)],none,none,true,false,none,24,false,none,false,0⟩),
 (53,⟨true,11,[.int .u64 (.lit 0),.int .u64 (.lit 0),.int .u64 (.lit 0),.int .u64 (.lit 0),.int .u64 (.lit 0),.int .u64 (.lit 0),.int .u64 (.lit 0),.int .u64 (.lit 0),.int .u64 (.lit 0),.int .u64 (.lit 0),.int .u64 (.lit 0)],[],some (11,30),none,false,false,none,88,false,none,false,0⟩),
 (54,⟨true,64,[.int .u8 (.lit 0),.int .u8 (.lit 0),.int .u8 (.lit 0),.int .u8 (.lit 0),.int .u8 (.lit 0),.int .u8 (.lit 0),.int .u8 (.lit 0),.int .u8 (.lit 0),.int .u8 (.lit 0),.int .u8 (.lit 0),.int .u8 (.lit 0),.int .u8 (.lit 0),.int .u8 (.lit 0),.int .u8 (.lit 0),.int .u8 (.lit 0),.int .u8 (.lit 0),.int .u8 (.lit 0),.int .u8 (.lit 0),.int .u8 (.lit 0),.int .u8 (.lit 0),.int .u8 (.lit 0),.int .u8 (.lit 0),.int .u8 (.lit 0),.int .u8 (.lit 0),.int .u8 (.lit 0),.int .u8 (.lit 0),.int .u8 (.lit 0),.int .u8 (.lit 0),.int .u8 (.lit 0),.int .u8 (.lit 0),.int .u8 (.lit 0),.int .u8 (.lit 0),.int .u8 (.lit 0),.int .u8 (.lit 0),.int .u8 (.lit 0),.int .u8 (.lit 0),.int .u8 (.lit 0),.int .u8 (.lit 0),.int .u8 (.lit 0),.int .u8 (.lit 0),.int .u8 (.lit 0),.int .u8 (.lit 0),.int .u8 (.lit 0),.int .u8 (.lit 0),.int .u8 (.lit 0),.int .u8 (.lit 0),.int .u8 (.lit 0),.int .u8 (.lit 0),.int .u8 (.lit 0),.int .u8 (.lit 0),.int .u8 (.lit 0),.int .u8 (.lit 0),.int .u8 (.lit 0),.int .u8 (.lit 0),.int .u8 (.lit 0),.int .u8 (.lit 0),.int .u8 (.lit 0),.int .u8 (.lit 0),.int .u8 (.lit 0),.int .u8 (.lit 0),.int .u8 (.lit 0),.int .u8 (.lit 0),.int .u8 (.lit 0),.int .u8 (.lit 0)],[],some (64,5),none,false,false,none,64,false,none,false,0⟩),
 (56,⟨true,76,[.int .u64 (.lit 0),.int .u64 (.lit 0),.int .u64 (.lit 0),.int .u64 (.lit 0),.int .u64 (.lit 0),.int .u64 (.lit 0),.int .u64 (.lit 0),.int .u64 (.lit 0),.int .u64 (.lit 0),.int .u64 (.lit 0),.int .u64 (.lit 0),.int .i64 (.lit 0),.int .u8 (.lit 0),.int .u8 (.lit 0),.int .u8 (.lit 0),.int .u8 (.lit 0),.int .u8 (.lit 0),.int .u8 (.lit 0),.int .u8 (.lit 0),.int .u8 (.lit 0),.int .u8 (.lit 0),.int .u8 (.lit 0),.int .u8 (.lit 0),.int .u8 (.lit 0),.int .u8 (.lit 0),.int .u8 (.lit 0),.int .u8 (.lit 0),.int .u8 (.lit 0),.int .u8 (.lit 0),.int .u8 (.lit 0),.int .u8 (.lit 0),.int .u8 (.lit 0),.int .u8 (.lit 0),.int .u8 (.lit 0),.int .u8 (.lit 0),.int .u8 (.lit 0),.int .u8 (.lit 0),.int .u8 (.lit 0),.int .u8 (.lit 0),.int .u8 (.lit 0),.int .u8 (.lit 0),.int .u8 (.lit 0),.int .u8 (.lit 0),.int .u8 (.lit 0),.int .u8 (.lit 0),.int .u8 (.lit 0),.int .u8 (.lit 0),.int .u8 (.lit 0),.int .u8 (.lit 0),.int .u8 (.lit 0),.int .u8 (.lit 0),.int .u8 (.lit 0),.int .u8 (.lit 0),.int .u8 (.lit 0),.int .u8 (.lit 0),.int .u8 (.lit 0),.int .u8 (.lit 0),.int .u8 (.lit 0),.int .u8 (.lit 0),.int .u8 (.lit 0),.int .u8 (.lit 0),.int .u8 (.lit 0),.int .u8 (.lit 0),.int .u8 (.lit 0),.int .u8 (.lit 0),.int .u8 (.lit 0),.int .u8 (.lit 0),.int .u8 (.lit 0),.int .u8 (.lit 0),.int .u8 (.lit 0),.int .u8 (.lit 0),.int .u8 (.lit 0),.int .u8 (.lit 0),.int .u8 (.lit 0),.int .u8 (.lit 0),.int .u8 (.lit 0)],[(0,53),(11,3),(12,54)],none,none,false,false,none,160,false,none,false,0⟩),
 (67,⟨false,1,[.nilp],[],none,none,false,false,none,8,false,none,false,1⟩),
 (69,⟨true,84,[.int .i64 (.lit 0),.nsl,.nilp,.int .u64 (.lit 0),.int .u64 (.lit 0),.int .u64 (.lit 0),.int .u64 (.lit 0),.int .u64 (.lit 0),.int .u64 (.lit 0),.int .u64 (.lit 0),.int .u64 (.lit 0),.int .u64 (.lit 0),.int .u64 (.lit 0),.int .u64 (.lit 0),.int .i64 (.lit 0),.int .u8 (.lit 0),.int .u8 (.lit 0),.int .u8 (.lit 0),.int .u8 (.lit 0),.int .u8 (.lit 0),.int .u8 (.lit 0),.int .u8 (.lit 0),.int .u8 (.lit 0),.int .u8 (.lit 0),.int .u8 (.lit 0),.int .u8 (.lit 0),.int .u8 (.lit 0),.int .u8 (.lit 0),.int .u8 (.lit 0),.int .u8 (.lit 0),.int .u8 (.lit 0),.int .u8 (.lit 0),.int .u8 (.lit 0),.int .u8 (.lit 0),.int .u8 (.lit 0),.int .u8 (.lit 0),.int .u8 (.lit 0),.int .u8 (.lit 0),.int .u8 (.lit 0),.int .u8 (.lit 0),.int .u8 (.lit 0),.int .u8 (.lit 0),.int .u8 (.lit 0),.int .u8 (.lit 0),.int .u8 (.lit 0),.int .u8 (.lit 0),.int .u8 (.lit 0),.int .u8 (.lit 0),.int .u8 (.lit 0),.int .u8 (.lit 0),.int .u8 (.lit 0),.int .u8 (.lit 0),.int .u8 (.lit 0),.int .u8 (.lit 0),.int .u8 (.lit 0),.int .u8 (.lit 0),.int .u8 (.lit 0),.int .u8 (.lit 0),.int .u8 (.lit 0),.int .u8 (.lit 0),.int .u8 (.lit 0),.int .u8 (.lit 0),.int .u8 (.lit 0),.int .u8 (.lit 0),.int .u8 (.lit 0),.int .u8 (.lit 0),.int .u8 (.lit 0),.int .u8 (.lit 0),.int .u8 (.lit 0),.int .u8 (.lit 0),.int .u8 (.lit 0),.int .u8 (.lit 0),.int .u8 (.lit 0),.int .u8 (.lit 0),.int .u8 (.lit 0),.int .u8 (.lit 0),.int .u8 (.lit 0),.int .u8 (.lit 0),.int .u8 (.lit 0),.int .i64 (.lit 0),.int .i64 (.lit 0),.nsl,.nsl,.int .i8 (.lit 0)],[(0,24),(2,67),(3,56),(79,3),(80,3),(81,26),(82,31),(83,29)],none,none,false,false,none,272,false,none,false,0⟩),
 (106,⟨true,3,[.int .u64 (.lit 0),.nsl,.bool (.tt false)],[(0,30),(1,25),(2,4)],none,none,false,false,none,40,false,none,false,0⟩),
 (107,⟨true,12,[.int .u64 (.lit 0),.nsl,.bool (.tt false),.int .u64 (.lit 0),.nsl,.bool (.tt false),.int .u64 (.lit 0),.nsl,.bool (.tt false),.int .u64 (.lit 0),.nsl,.bool (.tt false)],[],some (4,106),none,false,false,none,160,false,none,false,0⟩),
 (109,⟨true,12,[.int .u64 (.lit 0),.nsl,.bool (.tt false),.int .u64 (.lit 0),.nsl,.bool (.tt false),.int .u64 (.lit 0),.nsl,.bool (.tt false),.int .u64 (.lit 0),.nsl,.bool (.tt false)],[(0,107)],none,none,false,false,none,160,false,none,false,0⟩)]
set_option maxRecDepth 100000 in
theorem um:(tys_MoB.all fun p=>ckTI Try.prog p.1 p.2)=true:=by kernel_rfl
theorem nf:(tys_MoB.all fun p=>!p.2.eqok||((Nat.beq p.1 44&&bv p.2.zero iF)))=true:=by kernel_rfl
theorem uc:(tys_MoB.all fun p=>!p.2.keyok)=true:=by kernel_rfl
theorem fG:∀t i,(t,i)∈tys_MoB→TIok Try.prog t i:=by
 intro t i h
 refine cQ (eY (f:=ckTI Try.prog) um h) (fun he=> ?_) (fun he=> ?_) (fun he=> ?_)
 ·have h1:=List.all_eq_true.1 nf (t,i) h
  simp only[he,Bool.not_true,Bool.false_or,Bool.or_eq_true,Bool.and_eq_true] at h1
  have hs:=h1.2
  obtain rfl:=Nat.eq_of_beq_eq_true h1.1
  exact fun vs us hv hu=>iA vs us (aB hs hv) (aB hs hu)
 ·have h1:=List.all_eq_true.1 nf (t,i) h
  simp only[he,Bool.not_true,Bool.false_or,Bool.or_eq_true,Bool.and_eq_true] at h1
  have hs:=h1.2
  obtain rfl:=Nat.eq_of_beq_eq_true h1.1
  exact ek
 ·have h1:=List.all_eq_true.1 uc (t,i) h
  simp[he] at h1
def gM (key:Nat):Sm:=⟨73,key,[.one (.int .i8),.one (.int .i8),.one (.int .u64),.one (.int .u64)],[.one (.int .u64),.one (.int .i64)],true⟩
def gI (op:Int) (l:Int) (x:Int) (y:Int):List Dt:=[.z (if okop op l=true then zdo op l x y else 0),.z (if okop op l=true then 0 else 2)]
def dU:List Dt→List Dt
 | [.z x0,.z x1,.z x2,.z x3]=>gI x0 x1 x2 x3
 | _=>[]
theorem aaC (op:Int) (hop:inK .i8 op=true) (l:Int) (hl:inK .i8 l=true) (x:Int) (hx:inK .u64 x=true) (y:Int) (hy:inK .u64 y=true):(∀w,Calls Try.prog 73 #[.int .i8 op,.int .i8 l,.int .u64 x,.int .u64 y] w fun e w'=>e=.returned (.tuple #[.int .u64 (if okop op l=true then zdo op l x y else 0),.int .i64 (if okop op l=true then 0 else 2)])∧Ext w w')∧eM (.tuple #[.int .u64 (if okop op l=true then zdo op l x y else 0),.int .i64 (if okop op l=true then 0 else 2)])=true:=by
 have gx:=eh hx
 have gy:=eh hy
 cases hk:okop op l
 ·refine⟨fun w=>(acH op l x y w ?_).mono ?_,by simp[eM,cK,cO]; decide⟩
  ·unfold okop at hk
   rw[Bool.and_eq_false_iff,Bool.and_eq_false_iff] at hk
   rcases hk with(hk | hk) | hk
   ·have:=of_decide_eq_false hk
    simp; omega
   ·have:=of_decide_eq_false hk
    simp; omega
   ·rw[hk]; simp
  ·rintro e w' ⟨rfl,rfl⟩
   exact⟨by simp,Ext.refl _⟩
 ·unfold okop at hk
  simp only[Bool.and_eq_true,decide_eq_true_eq] at hk
  have hz:=tR (zl op l x y gx.1 gx.2 gy.1 gy.2)
  refine⟨fun w=>(acI op l x y w gx.1 gx.2 gy.1 gy.2 hk.1.1 hk.1.2 hk.2).mono ?_,by simp[eM,cK,cO,hz]; decide⟩
  rintro e w' ⟨rfl,hx⟩
  exact⟨by simp,hx⟩
theorem vP {sp:Spec} {key:Nat} (hF:sp.F key=dU):SmOk Try.prog sp (gM key):=by
 refine SmOk.pure hF rfl rfl fun xs vals w h=> ?_
 obtain⟨_,_,_,rfl,⟨x0,rfl,rfl,gx0⟩,h⟩:=h
 obtain⟨_,_,_,rfl,⟨x1,rfl,rfl,gx1⟩,h⟩:=h
 obtain⟨_,_,_,rfl,⟨x2,rfl,rfl,gx2⟩,h⟩:=h
 obtain⟨_,_,_,rfl,⟨x3,rfl,rfl,gx3⟩,h⟩:=h
 obtain⟨rfl,rfl⟩:=h
 have q:=aaC x0 gx0 x1 gx1 x2 gx2 x3 gx3
 refine⟨_,.inr ⟨da Try.func73 (by kernel_rfl) (by kernel_rfl) _ w,q.1 w⟩,?_,fun ρ v0 nid j he=> ?_⟩
 ·have q2:=q.2
  simp[eM,cK,cO] at q2
  simp[gM,dU,gI,List.flatMap_cons,List.flatMap_nil,Sh.cks,List.append_nil,List.cons_append,List.nil_append,b2i_one,dY,q2]
 ·simp only[gM,dU,gI,List.flatMap_cons,List.flatMap_nil,Sh.cks,List.append_nil,List.cons_append,List.nil_append,b2i_one,eqs,dI,dB,List.getElem?_cons_zero,List.getElem?_cons_succ,Nat.zero_add,Nat.add_zero,Nat.reduceAdd,and_true] at he
  simp[gM,dU,gI,List.flatMap_cons,List.flatMap_nil,Sh.cks,List.append_nil,List.cons_append,List.nil_append,b2i_one,eS,aV,ax,V.den,C.den,denL,den0,bh,E.I,E.B,he]
def sM_holds (key:Nat):Sm:=⟨79,key,[.one (.int .i8),.one (.int .i8),.one (.int .u64),.one (.int .u64)],[.one .bool,.one (.int .i64)],true⟩
def sV_holds (cc:Int) (l:Int) (x:Int) (y:Int):List Dt:=[.z (b2i ((okcc cc l&&iE cc l x y))),.z (if okcc cc l=true then 0 else 2)]
def sF_holds:List Dt→List Dt
 | [.z x0,.z x1,.z x2,.z x3]=>sV_holds x0 x1 x2 x3
 | _=>[]
theorem sX_holds (cc:Int) (hcc:inK .i8 cc=true) (l:Int) (hl:inK .i8 l=true) (x:Int) (hx:inK .u64 x=true) (y:Int) (hy:inK .u64 y=true):(∀w,Calls Try.prog 79 #[.int .i8 cc,.int .i8 l,.int .u64 x,.int .u64 y] w fun e w'=>e=.returned (.tuple #[.bool ((okcc cc l&&iE cc l x y)),.int .i64 (if okcc cc l=true then 0 else 2)])∧Ext w w')∧eM (.tuple #[.bool ((okcc cc l&&iE cc l x y)),.int .i64 (if okcc cc l=true then 0 else 2)])=true:=by
 have gx:=eh hx
 have gy:=eh hy
 cases hk:okcc cc l
 ·refine⟨fun w=>(wQ cc l x y w ?_).mono ?_,by simp[eM,cK,cO]; decide⟩
  ·unfold okcc at hk
   rw[Bool.and_eq_false_iff,Bool.and_eq_false_iff] at hk
   rcases hk with(hk | hk) | hk
   ·have:=of_decide_eq_false hk
    simp; omega
   ·have:=of_decide_eq_false hk
    simp; omega
   ·rw[hk]; simp
  ·rintro e w' ⟨rfl,rfl⟩
   exact⟨by simp,Ext.refl _⟩
 ·unfold okcc at hk
  simp only[Bool.and_eq_true,decide_eq_true_eq] at hk
  refine⟨fun w=>(wR cc l x y w gx.1 gx.2 gy.1 gy.2 hk.1.1 hk.1.2 hk.2).mono ?_,by simp[eM,cK,cO]; decide⟩
  rintro e w' ⟨rfl,rfl⟩
  exact⟨by simp,Ext.refl _⟩
theorem sK_holds {sp:Spec} {key:Nat} (hF:sp.F key=sF_holds):SmOk Try.prog sp (sM_holds key):=by
 refine SmOk.pure hF rfl rfl fun xs vals w h=> ?_
 obtain⟨_,_,_,rfl,⟨x0,rfl,rfl,gx0⟩,h⟩:=h
 obtain⟨_,_,_,rfl,⟨x1,rfl,rfl,gx1⟩,h⟩:=h
 obtain⟨_,_,_,rfl,⟨x2,rfl,rfl,gx2⟩,h⟩:=h
 obtain⟨_,_,_,rfl,⟨x3,rfl,rfl,gx3⟩,h⟩:=h
 obtain⟨rfl,rfl⟩:=h
 have q:=sX_holds x0 gx0 x1 gx1 x2 gx2 x3 gx3
 refine⟨_,.inr ⟨da Try.func79 (by kernel_rfl) (by kernel_rfl) _ w,q.1 w⟩,?_,fun ρ v0 nid j he=> ?_⟩
 ·have q2:=q.2
  simp[eM,cK,cO] at q2
  simp[sM_holds,sF_holds,sV_holds,List.flatMap_cons,List.flatMap_nil,Sh.cks,List.append_nil,List.cons_append,List.nil_append,b2i_one,dY,q2]
 ·simp only[sM_holds,sF_holds,sV_holds,List.flatMap_cons,List.flatMap_nil,Sh.cks,List.append_nil,List.cons_append,List.nil_append,b2i_one,eqs,dI,dB,List.getElem?_cons_zero,List.getElem?_cons_succ,Nat.zero_add,Nat.add_zero,Nat.reduceAdd,and_true] at he
  simp[sM_holds,sF_holds,sV_holds,List.flatMap_cons,List.flatMap_nil,Sh.cks,List.append_nil,List.cons_append,List.nil_append,b2i_one,eS,aV,ax,V.den,C.den,denL,den0,bh,E.I,E.B,he]
def jw (key:Nat):Sm:=⟨76,key,[.one (.int .i64)],[.one (.int .u64)],false⟩
def jl (n:Int):List Dt:=[.z (IntKind.u64.wrap n)]
def dh:List Dt→List Dt
 | [.z x0]=>jl x0
 | _=>[]
def sT_mnum:Tr:=
(.leaf (.cons (.conv .u64 (.var 0)) .nil))
def vv:Spec:=⟨fun k=>match k with | _=>fun _=>[],fun k=>match k with | _=>fun _=>True⟩
set_option maxRecDepth 100000 in
theorem aaF:aM tys_MoB [] [] [] [] 200 Try.f76 [.one (.int .i64)] [.one (.int .u64)] false [.int .i64] sT_mnum:=⟨by kernel_rfl,by kernel_rfl,by kernel_rfl⟩
set_option maxRecDepth 100000 in
set_option maxHeartbeats 8000000 in
theorem aau (n:Int) (hn:inK .i64 n=true) (ρ:Env) (g:ah ρ 0 [.int .i64]=[.z n]):sT_mnum.asks vv (fun ρ e=>e.D ρ=dh [.z n]) ρ fun _ _=>False:=by
 simp only[ah,varD,List.cons.injEq,Dt.z.injEq,Dt.l.injEq,b2i_eq_iff,Nat.reduceAdd,and_true] at g
 simp only[sT_mnum,vv,dh,jl,Tr.asks,am,okDs,okD,eqs,E.I,E.B,E.L,E.R,E.D,E.vs,dI,dB,dL,varD,ah,List.getElem?_cons_zero,List.getElem?_cons_succ,List.cons_append,List.nil_append,Nat.zero_add,Nat.add_zero,Nat.reduceAdd,and_true,true_and,b2i_one,-eq_self,Ins.eta,Prog.eta,aa,Mem.eta,Mach.eta,g]
 ·rfl
theorem pt {sp:Spec} {key:Nat} (hF:sp.F key=dh) (hP:sp.pre key=fun _=>True:=by rfl):SmOk Try.prog sp (jw key):=
 aS (s:=jw key) hF hP (by kernel_rfl) fG (sm0) Try.func76 fn0 aaF (.inl rfl) (fun x0 gx0 hp ρ g=>aau x0 gx0 ρ g)
def lU (key:Nat):Sm:=⟨74,key,[.ptr acx,.agg kIns],[.one (.int .u64)],false⟩
def lQ (m:Mach) (x:Ins):List Dt:=[.z (msec m x)]
def fg:List Dt→List Dt
 | [.z x0,.z x1,.z x2,.z x3,.z x4,.z x5,.z x6,.z x7,.z x8,.z x9,.z x10,.z x11,.z x12,.z x13,.z x14,.z x15,.z x16,.z x17,.z x18,.z x19]=>lQ ⟨x0,x1,x2,x3,x4,x5,x6,x7,x8,x9,x10⟩ ⟨x11,x12,x13,x14,(x15==1),x16,x17,x18,x19⟩
 | _=>[]
def sT_msec:Tr:=
(.br (.bvar 15)
(.br (.eq (.var 17) (.lit 0))
(.leaf (.cons (.var 0) .nil))
(.br (.eq (.var 17) (.lit 1))
(.leaf (.cons (.var 1) .nil))
(.br (.eq (.var 17) (.lit 2))
(.leaf (.cons (.var 2) .nil))
(.br (.eq (.var 17) (.lit 3))
(.leaf (.cons (.var 3) .nil))
(.br (.eq (.var 17) (.lit 4))
(.leaf (.cons (.var 4) .nil))
(.br (.eq (.var 17) (.lit 5))
(.leaf (.cons (.var 5) .nil))
(.br (.eq (.var 17) (.lit 6))
(.leaf (.cons (.var 6) .nil))
(.br (.eq (.var 17) (.lit 7))
(.leaf (.cons (.var 7) .nil))
(.br (.eq (.var 17) (.lit 8))
(.leaf (.cons (.var 8) .nil))
(.br (.eq (.var 17) (.lit 9))
(.leaf (.cons (.var 9) .nil))
(.br (.eq (.var 17) (.lit 10))
(.leaf (.cons (.var 10) .nil))
.panic)))))))))))
(.call 0 [.int .u64] (.cons (.var 19) .nil) 20
(.leaf (.cons (.var 20) .nil))))
def vt:Spec:=⟨fun k=>match k with | 0=>dh | _=>fun _=>[],fun k=>match k with | _=>fun _=>True⟩
set_option maxRecDepth 100000 in
theorem aaD:aM tys_MoB [jw 0] [] [] [] 200 Try.f74 [.ptr acx,.agg kIns] [.one (.int .u64)] false [.int .u64,.int .u64,.int .u64,.int .u64,.int .u64,.int .u64,.int .u64,.int .u64,.int .u64,.int .u64,.int .u64,.int .i8,.int .i8,.int .i8,.int .i8,.bool,.int .i8,.int .i8,.int .i64,.int .i64] sT_msec:=⟨by kernel_rfl,by kernel_rfl,by kernel_rfl⟩
def ff:List Dt→Prop
 | [.z x0,.z x1,.z x2,.z x3,.z x4,.z x5,.z x6,.z x7,.z x8,.z x9,.z x10,.z x11,.z x12,.z x13,.z x14,.z x15,.z x16,.z x17,.z x18,.z x19]=>let f (m:Mach) (x:Ins):Prop:=x.br=true→0≤x.s∧x.s≤10; f ⟨x0,x1,x2,x3,x4,x5,x6,x7,x8,x9,x10⟩ ⟨x11,x12,x13,x14,(x15==1),x16,x17,x18,x19⟩
 | _=>False
set_option maxRecDepth 100000 in
set_option maxHeartbeats 8000000 in
theorem aas (m:Mach) (hm:Mach.ok m) (x:Ins) (hx:Ins.ok x) (hp:ff [.z m.r0,.z m.r1,.z m.r2,.z m.r3,.z m.r4,.z m.r5,.z m.r6,.z m.r7,.z m.r8,.z m.r9,.z m.r10,.z x.k,.z x.op,.z x.w,.z x.sz,.z (b2i x.br),.z x.d,.z x.s,.z x.off,.z x.imm]) (ρ:Env) (g:ah ρ 0 [.int .u64,.int .u64,.int .u64,.int .u64,.int .u64,.int .u64,.int .u64,.int .u64,.int .u64,.int .u64,.int .u64,.int .i8,.int .i8,.int .i8,.int .i8,.bool,.int .i8,.int .i8,.int .i64,.int .i64]=[.z m.r0,.z m.r1,.z m.r2,.z m.r3,.z m.r4,.z m.r5,.z m.r6,.z m.r7,.z m.r8,.z m.r9,.z m.r10,.z x.k,.z x.op,.z x.w,.z x.sz,.z (b2i x.br),.z x.d,.z x.s,.z x.off,.z x.imm]):sT_msec.asks vt (fun ρ e=>e.D ρ=fg [.z m.r0,.z m.r1,.z m.r2,.z m.r3,.z m.r4,.z m.r5,.z m.r6,.z m.r7,.z m.r8,.z m.r9,.z m.r10,.z x.k,.z x.op,.z x.w,.z x.sz,.z (b2i x.br),.z x.d,.z x.s,.z x.off,.z x.imm]) ρ fun _ _=>False:=by
 simp only[ff,b2i_one,Ins.eta,Prog.eta,aa,Mem.eta,Mach.eta] at hp
 simp only[ah,varD,List.cons.injEq,Dt.z.injEq,Dt.l.injEq,b2i_eq_iff,Nat.reduceAdd,and_true] at g
 simp only[sT_msec,vt,dh,jl,fg,lQ,Tr.asks,am,okDs,okD,eqs,E.I,E.B,E.L,E.R,E.D,E.vs,dI,dB,dL,varD,ah,List.getElem?_cons_zero,List.getElem?_cons_succ,List.cons_append,List.nil_append,Nat.zero_add,Nat.add_zero,Nat.reduceAdd,and_true,true_and,b2i_one,-eq_self,Ins.eta,Prog.eta,aa,Mem.eta,Mach.eta,g]
 refine⟨fun c0=> ?_,fun c0=> ?_⟩
 refine⟨fun c1=> ?_,fun c1=> ?_⟩
 ·(unfold msec; rw[c0,eqI c1]; rfl)
 refine⟨fun c2=> ?_,fun c2=> ?_⟩
 ·(unfold msec; rw[c0,eqI c2]; rfl)
 refine⟨fun c3=> ?_,fun c3=> ?_⟩
 ·(unfold msec; rw[c0,eqI c3]; rfl)
 refine⟨fun c4=> ?_,fun c4=> ?_⟩
 ·(unfold msec; rw[c0,eqI c4]; rfl)
 refine⟨fun c5=> ?_,fun c5=> ?_⟩
 ·(unfold msec; rw[c0,eqI c5]; rfl)
 refine⟨fun c6=> ?_,fun c6=> ?_⟩
 ·(unfold msec; rw[c0,eqI c6]; rfl)
 refine⟨fun c7=> ?_,fun c7=> ?_⟩
 ·(unfold msec; rw[c0,eqI c7]; rfl)
 refine⟨fun c8=> ?_,fun c8=> ?_⟩
 ·(unfold msec; rw[c0,eqI c8]; rfl)
 refine⟨fun c9=> ?_,fun c9=> ?_⟩
 ·(unfold msec; rw[c0,eqI c9]; rfl)
 refine⟨fun c10=> ?_,fun c10=> ?_⟩
 ·(unfold msec; rw[c0,eqI c10]; rfl)
 refine⟨fun c11=> ?_,fun c11=> ?_⟩
 ·(unfold msec; rw[c0,eqI c11]; rfl)
 ·(have q:=hp c0; have n0:=neI c1; have n1:=neI c2; have n2:=neI c3; have n3:=neI c4; have n4:=neI c5; have n5:=neI c6; have n6:=neI c7; have n7:=neI c8; have n8:=neI c9; have n9:=neI c10; have n10:=neI c11; omega)
 intro e; (try simp only[e,Ins.eta,Prog.eta,aa,Mem.eta,Mach.eta,-eq_self]); clear e
 ·(unfold msec; rw[c0]; rfl)
theorem vG {sp:Spec} {key:Nat} (hF:sp.F key=fg) (hP:sp.pre key=ff):SmOk Try.prog sp (lU key):=
 aS (s:=lU key) hF hP (by kernel_rfl) fG (smc (pt rfl) sm0) Try.func74 fn0 aaD (.inl rfl) (fun x0 gx0 x1 gx1 x2 gx2 x3 gx3 x4 gx4 x5 gx5 x6 gx6 x7 gx7 x8 gx8 x9 gx9 x10 gx10 x11 gx11 x12 gx12 x13 gx13 x14 gx14 x15 x16 gx16 x17 gx17 x18 gx18 x19 gx19 hp ρ g=>aas ⟨x0,x1,x2,x3,x4,x5,x6,x7,x8,x9,x10⟩ ⟨gx0,gx1,gx2,gx3,gx4,gx5,gx6,gx7,gx8,gx9,gx10⟩ ⟨x11,x12,x13,x14,x15,x16,x17,x18,x19⟩ ⟨gx11,gx12,gx13,gx14,gx16,gx17,gx18,gx19⟩ hp ρ g)
def lV (key:Nat):Sm:=⟨25,key,[.ptr kMem],[.one (.sl [some .u8] 5)],false⟩
def lR (m:Mem):List Dt:=[.l m.l1]
def fh:List Dt→List Dt
 | [.z x0,.l x1,.z x2,.z x3,.l x4,.z x5,.z x6,.l x7,.z x8,.z x9,.l x10,.z x11]=>lR ⟨x0,x1,(x2==1),x3,x4,(x5==1),x6,x7,(x8==1),x9,x10,(x11==1)⟩
 | _=>[]
def sT_mctx:Tr:=
(.br (.lt (.len (.lvar 4)) (.lit 1073741824))
(.leaf (.consl (.lvar 4) .nil))
.panic)
def vx:Spec:=⟨fun k=>match k with | _=>fun _=>[],fun k=>match k with | _=>fun _=>True⟩
set_option maxRecDepth 100000 in
theorem aaG:aM tys_MoB [] [(39,Try.f39,[],[]),(57,Try.f57,[],[])] [] [] 200 Try.f25 [.ptr kMem] [.one (.sl [some .u8] 5)] false [.int .u64,.list [some .u8],.bool,.int .u64,.list [some .u8],.bool,.int .u64,.list [some .u8],.bool,.int .u64,.list [some .u8],.bool] sT_mctx:=⟨by kernel_rfl,by kernel_rfl,by kernel_rfl⟩
def dM:List Dt→Prop
 | [.z x0,.l x1,.z x2,.z x3,.l x4,.z x5,.z x6,.l x7,.z x8,.z x9,.l x10,.z x11]=>let f (m:Mem):Prop:=m.fit; f ⟨x0,x1,(x2==1),x3,x4,(x5==1),x6,x7,(x8==1),x9,x10,(x11==1)⟩
 | _=>False
set_option maxRecDepth 100000 in
set_option maxHeartbeats 8000000 in
theorem aav (m:Mem) (hm:Mem.ok m) (hp:dM [.z m.b0,.l m.l0,.z (b2i m.w0),.z m.b1,.l m.l1,.z (b2i m.w1),.z m.b2,.l m.l2,.z (b2i m.w2),.z m.b3,.l m.l3,.z (b2i m.w3)]) (ρ:Env) (g:ah ρ 0 [.int .u64,.list [some .u8],.bool,.int .u64,.list [some .u8],.bool,.int .u64,.list [some .u8],.bool,.int .u64,.list [some .u8],.bool]=[.z m.b0,.l m.l0,.z (b2i m.w0),.z m.b1,.l m.l1,.z (b2i m.w1),.z m.b2,.l m.l2,.z (b2i m.w2),.z m.b3,.l m.l3,.z (b2i m.w3)]):sT_mctx.asks vx (fun ρ e=>e.D ρ=fh [.z m.b0,.l m.l0,.z (b2i m.w0),.z m.b1,.l m.l1,.z (b2i m.w1),.z m.b2,.l m.l2,.z (b2i m.w2),.z m.b3,.l m.l3,.z (b2i m.w3)]) ρ fun _ _=>False:=by
 simp only[dM,b2i_one,Ins.eta,Prog.eta,aa,Mem.eta,Mach.eta] at hp
 simp only[ah,varD,List.cons.injEq,Dt.z.injEq,Dt.l.injEq,b2i_eq_iff,Nat.reduceAdd,and_true] at g
 simp only[sT_mctx,vx,fh,lR,Tr.asks,am,okDs,okD,eqs,E.I,E.B,E.L,E.R,E.D,E.vs,dI,dB,dL,varD,ah,List.getElem?_cons_zero,List.getElem?_cons_succ,List.cons_append,List.nil_append,Nat.zero_add,Nat.add_zero,Nat.reduceAdd,and_true,true_and,b2i_one,-eq_self,Ins.eta,Prog.eta,aa,Mem.eta,Mach.eta,g]
 refine⟨fun c0=> ?_,fun c0=> ?_⟩
 ·rfl
 ·(have q:=of_decide_eq_false c0; have z:=hp.l1; omega)
theorem vH {sp:Spec} {key:Nat} (hF:sp.F key=fh) (hP:sp.pre key=dM):SmOk Try.prog sp (lV key):=
 aS (s:=lV key) hF hP (by kernel_rfl) fG (sm0) Try.func25 (fnc Try.func39 (fnc Try.func57 fn0)) aaG (.inr (.inl ⟨(fun xs h L hL=>by unfold dM at h; split at h<;>first | exact h.elim | (simp at hL; rcases hL with rfl | rfl | rfl | rfl; exact Nat.le_trans h.l0 (by decide); exact Nat.le_trans h.l1 (by decide); exact Nat.le_trans (Nat.le_of_eq h.l2) (by decide); exact Nat.le_trans h.l3 (by decide))),rfl⟩)) (fun x0 gx0 x1 gx1 x2 x3 gx3 x4 gx4 x5 x6 gx6 x7 gx7 x8 x9 gx9 x10 gx10 x11 hp ρ g=>aav ⟨x0,x1,x2,x3,x4,x5,x6,x7,x8,x9,x10,x11⟩ ⟨gx0,gx1,gx3,gx4,gx6,gx7,gx9,gx10⟩ hp ρ g)
def fO (key:Nat):Sm:=⟨65,key,[.agg kIns],[.one (.int .i64)],false⟩
def fK (x:Ins):List Dt:=[.z (ai x)]
def cr:List Dt→List Dt
 | [.z x0,.z x1,.z x2,.z x3,.z x4,.z x5,.z x6,.z x7,.z x8]=>fK ⟨x0,x1,x2,x3,(x4==1),x5,x6,x7,x8⟩
 | _=>[]
def sT_mwants:Tr:=
(.br (.eq (.var 0) (.lit 0))
(.br (.eq (.var 0) (.lit 3))
(.br (.lt (.var 5) (.lit 0))
.panic
(.br (.bvar 4)
(.br (.lt (.var 6) (.lit 0))
.panic
(.leaf (.cons (.bin .or .i64 (.bin .shl .i64 (.lit 1) (.var 5)) (.bin .shl .i64 (.lit 1) (.var 6))) .nil)))
(.leaf (.cons (.bin .shl .i64 (.lit 1) (.var 5)) .nil))))
(.br (.eq (.var 1) (.lit 11))
(.br (.bvar 4)
(.br (.lt (.var 6) (.lit 0))
.panic
(.leaf (.cons (.bin .or .i64 (.lit 0) (.bin .shl .i64 (.lit 1) (.var 6))) .nil)))
(.leaf (.cons (.lit 0) .nil)))
(.br (.lt (.var 5) (.lit 0))
.panic
(.br (.bvar 4)
(.br (.lt (.var 6) (.lit 0))
.panic
(.leaf (.cons (.bin .or .i64 (.bin .shl .i64 (.lit 1) (.var 5)) (.bin .shl .i64 (.lit 1) (.var 6))) .nil)))
(.leaf (.cons (.bin .shl .i64 (.lit 1) (.var 5)) .nil))))))
(.br (.eq (.var 0) (.lit 3))
(.br (.lt (.var 5) (.lit 0))
.panic
(.br (.bvar 4)
(.br (.lt (.var 6) (.lit 0))
.panic
(.leaf (.cons (.bin .or .i64 (.bin .shl .i64 (.lit 1) (.var 5)) (.bin .shl .i64 (.lit 1) (.var 6))) .nil)))
(.leaf (.cons (.bin .shl .i64 (.lit 1) (.var 5)) .nil))))
(.br (.eq (.var 0) (.lit 2))
(.br (.lt (.var 5) (.lit 0))
.panic
(.br (.lt (.var 6) (.lit 0))
.panic
(.leaf (.cons (.bin .or .i64 (.bin .shl .i64 (.lit 1) (.var 5)) (.bin .shl .i64 (.lit 1) (.var 6))) .nil))))
(.br (.eq (.var 0) (.lit 1))
(.br (.lt (.var 6) (.lit 0))
.panic
(.leaf (.cons (.bin .shl .i64 (.lit 1) (.var 6)) .nil)))
(.br (.eq (.var 0) (.lit 5))
(.call 0 [.int .i64] (.cons (.var 8) .nil) 9
(.br (.lt (.bin .add .i64 (.var 9) (.lit 1)) (.lit 0))
.panic
(.leaf (.cons (.bin .sub .i64 (.bin .shl .i64 (.lit 1) (.bin .add .i64 (.var 9) (.lit 1))) (.lit 2)) .nil))))
(.br (.eq (.var 0) (.lit 6))
(.leaf (.cons (.lit 1) .nil))
(.leaf (.cons (.lit 0) .nil))))))))
def nH:Spec:=⟨fun k=>match k with | 0=>cg | _=>fun _=>[],fun k=>match k with | _=>fun _=>True⟩
set_option maxRecDepth 100000 in
theorem vi:aM tys_MoB [fQ 0] [] [] [] 200 Try.f65 [.agg kIns] [.one (.int .i64)] false [.int .i8,.int .i8,.int .i8,.int .i8,.bool,.int .i8,.int .i8,.int .i64,.int .i64] sT_mwants:=⟨by kernel_rfl,by kernel_rfl,by kernel_rfl⟩
def cq:List Dt→Prop
 | [.z x0,.z x1,.z x2,.z x3,.z x4,.z x5,.z x6,.z x7,.z x8]=>let f (x:Ins):Prop:=imay x=true; f ⟨x0,x1,x2,x3,(x4==1),x5,x6,x7,x8⟩
 | _=>False
set_option maxRecDepth 100000 in
set_option maxHeartbeats 8000000 in
theorem uW (x:Ins) (hx:Ins.ok x) (hp:cq [.z x.k,.z x.op,.z x.w,.z x.sz,.z (b2i x.br),.z x.d,.z x.s,.z x.off,.z x.imm]) (ρ:Env) (g:ah ρ 0 [.int .i8,.int .i8,.int .i8,.int .i8,.bool,.int .i8,.int .i8,.int .i64,.int .i64]=[.z x.k,.z x.op,.z x.w,.z x.sz,.z (b2i x.br),.z x.d,.z x.s,.z x.off,.z x.imm]):sT_mwants.asks nH (fun ρ e=>e.D ρ=cr [.z x.k,.z x.op,.z x.w,.z x.sz,.z (b2i x.br),.z x.d,.z x.s,.z x.off,.z x.imm]) ρ fun _ _=>False:=by
 simp only[cq,b2i_one,Ins.eta,Prog.eta,aa,Mem.eta,Mach.eta] at hp
 simp only[ah,varD,List.cons.injEq,Dt.z.injEq,Dt.l.injEq,b2i_eq_iff,Nat.reduceAdd,and_true] at g
 simp only[sT_mwants,nH,cg,fM,cr,fK,Tr.asks,am,okDs,okD,eqs,E.I,E.B,E.L,E.R,E.D,E.vs,dI,dB,dL,varD,ah,List.getElem?_cons_zero,List.getElem?_cons_succ,List.cons_append,List.nil_append,Nat.zero_add,Nat.add_zero,Nat.reduceAdd,and_true,true_and,b2i_one,-eq_self,Ins.eta,Prog.eta,aa,Mem.eta,Mach.eta,g]
 refine⟨fun c0=> ?_,fun c0=> ?_⟩
 refine⟨fun c1=> ?_,fun c1=> ?_⟩
 refine⟨fun c2=> ?_,fun c2=> ?_⟩
 ·(have q:=aZ hp; have z:=aE x.imm; simp[opI,fc] at *; omega)
 refine⟨fun c3=> ?_,fun c3=> ?_⟩
 refine⟨fun c4=> ?_,fun c4=> ?_⟩
 ·(have q:=aZ hp; have z:=aE x.imm; simp[opI,fc] at *; omega)
 ·(unfold ai bit1; simp_all)
 ·(unfold ai bit1; simp_all)
 refine⟨fun c5=> ?_,fun c5=> ?_⟩
 refine⟨fun c6=> ?_,fun c6=> ?_⟩
 refine⟨fun c7=> ?_,fun c7=> ?_⟩
 ·(have q:=aZ hp; have z:=aE x.imm; simp[opI,fc] at *; omega)
 ·(unfold ai bit1; simp_all)
 ·(unfold ai bit1; simp_all)
 refine⟨fun c8=> ?_,fun c8=> ?_⟩
 ·(have q:=aZ hp; have z:=aE x.imm; simp[opI,fc] at *; omega)
 refine⟨fun c9=> ?_,fun c9=> ?_⟩
 refine⟨fun c10=> ?_,fun c10=> ?_⟩
 ·(have q:=aZ hp; have z:=aE x.imm; simp[opI,fc] at *; omega)
 ·(unfold ai bit1; simp_all)
 ·(unfold ai bit1; simp_all)
 refine⟨fun c11=> ?_,fun c11=> ?_⟩
 refine⟨fun c12=> ?_,fun c12=> ?_⟩
 ·(have q:=aZ hp; have z:=aE x.imm; simp[opI,fc] at *; omega)
 refine⟨fun c13=> ?_,fun c13=> ?_⟩
 refine⟨fun c14=> ?_,fun c14=> ?_⟩
 ·(have q:=aZ hp; have z:=aE x.imm; simp[opI,fc] at *; omega)
 ·(unfold ai bit1; simp_all)
 ·(unfold ai bit1; simp_all)
 refine⟨fun c15=> ?_,fun c15=> ?_⟩
 refine⟨fun c16=> ?_,fun c16=> ?_⟩
 ·(have q:=aZ hp; have z:=aE x.imm; simp[opI,fc] at *; omega)
 refine⟨fun c17=> ?_,fun c17=> ?_⟩
 ·(have q:=aZ hp; have z:=aE x.imm; simp[opI,fc] at *; omega)
 ·(unfold ai bit1; simp_all)
 refine⟨fun c18=> ?_,fun c18=> ?_⟩
 refine⟨fun c19=> ?_,fun c19=> ?_⟩
 ·(have q:=aZ hp; have z:=aE x.imm; simp[opI,fc] at *; omega)
 ·(unfold ai bit1; simp_all)
 refine⟨fun c20=> ?_,fun c20=> ?_⟩
 intro e; (try simp only[e,Ins.eta,Prog.eta,aa,Mem.eta,Mach.eta,-eq_self]); clear e
 refine⟨fun c21=> ?_,fun c21=> ?_⟩
 ·(have q:=aZ hp; have z:=aE x.imm; simp[opI,fc] at *; omega)
 ·(unfold ai bit1; simp_all)
 refine⟨fun c22=> ?_,fun c22=> ?_⟩
 ·(unfold ai bit1; simp_all)
 ·(unfold ai bit1; simp_all)
theorem nP {sp:Spec} {key:Nat} (hF:sp.F key=cr) (hP:sp.pre key=cq):SmOk Try.prog sp (fO key):=
 aS (s:=fO key) hF hP (by kernel_rfl) fG (smc (lY rfl) sm0) Try.func65 fn0 vi (.inl rfl) (fun x0 gx0 x1 gx1 x2 gx2 x3 gx3 x4 x5 gx5 x6 gx6 x7 gx7 x8 gx8 hp ρ g=>uW ⟨x0,x1,x2,x3,x4,x5,x6,x7,x8⟩ ⟨gx0,gx1,gx2,gx3,gx5,gx6,gx7,gx8⟩ hp ρ g)
end Go.Proofs.Ytghiofgomcihcaa
