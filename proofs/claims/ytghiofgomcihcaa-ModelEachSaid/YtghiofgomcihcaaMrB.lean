import Derived.Test.YtghiofgomcihcaaMrZ
import Derived.Test.YtghiofgomcihcaaMoF
import Derived.Test.YtghiofgomcihcaaLiL
import Derived.Test.YtghiofgomcihcaaBtZ
import Derived.Test.YtghiofgomcihcaaProg
import Derived.Laws.Externs
set_option linter.unusedVariables false
set_option linter.unusedSimpArgs false
namespace Go.Proofs.Ytghiofgomcihcaa
open Go.RowKit Go.ChangeShapes Go.WideShapes
structure JMem where
 l0:List (List Int)
 l1:List (List Int)
 l2:List (List Int)
 l3:List (List Int)
theorem JMem.eta (a:JMem):(⟨a.l0,a.l1,a.l2,a.l3⟩:JMem)=a:=rfl
def JMem.ok (a:JMem):Prop:=RowsIn [some .u8] a.l0∧RowsIn [some .u8] a.l1∧RowsIn [some .u8] a.l2∧RowsIn [some .u8] a.l3
def td:List CK:=[.sl [some .u8] 5,.sl [some .u8] 5,.sl [some .u8] 5,.sl [some .u8] 5]
structure JMd where
 r0:Int
 r1:Int
 r2:Int
 r3:Int
 r4:Int
 r5:Int
 r6:Int
 r7:Int
 r8:Int
 r9:Int
 r10:Int
theorem JMd.eta (a:JMd):(⟨a.r0,a.r1,a.r2,a.r3,a.r4,a.r5,a.r6,a.r7,a.r8,a.r9,a.r10⟩:JMd)=a:=rfl
def JMd.ok (a:JMd):Prop:=inK .u64 a.r0=true∧inK .u64 a.r1=true∧inK .u64 a.r2=true∧inK .u64 a.r3=true∧inK .u64 a.r4=true∧inK .u64 a.r5=true∧inK .u64 a.r6=true∧inK .u64 a.r7=true∧inK .u64 a.r8=true∧inK .u64 a.r9=true∧inK .u64 a.r10=true
def kJMd:List CK:=[.any,.any,.any,.int .u64,.int .u64,.int .u64,.int .u64,.int .u64,.int .u64,.int .u64,.int .u64,.int .u64,.int .u64,.int .u64,.any,.any,.any,.any,.any,.any,.any,.any,.any,.any,.any,.any,.any,.any,.any,.any,.any,.any,.any,.any,.any,.any,.any,.any,.any,.any,.any,.any,.any,.any,.any,.any,.any,.any,.any,.any,.any,.any,.any,.any,.any,.any,.any,.any,.any,.any,.any,.any,.any,.any,.any,.any,.any,.any,.any,.any,.any,.any,.any,.any,.any,.any,.any,.any,.any,.any,.any,.any]
structure F64 where
 f0:Int
 f1:Int
 f2:Int
 f3:Int
 f4:Int
 f5:Int
 f6:Int
 f7:Int
 f8:Int
 f9:Int
 f10:Int
 f11:Int
 f12:Int
 f13:Int
 f14:Int
 f15:Int
 f16:Int
 f17:Int
 f18:Int
 f19:Int
 f20:Int
 f21:Int
 f22:Int
 f23:Int
 f24:Int
 f25:Int
 f26:Int
 f27:Int
 f28:Int
 f29:Int
 f30:Int
 f31:Int
 f32:Int
 f33:Int
 f34:Int
 f35:Int
 f36:Int
 f37:Int
 f38:Int
 f39:Int
 f40:Int
 f41:Int
 f42:Int
 f43:Int
 f44:Int
 f45:Int
 f46:Int
 f47:Int
 f48:Int
 f49:Int
 f50:Int
 f51:Int
 f52:Int
 f53:Int
 f54:Int
 f55:Int
 f56:Int
 f57:Int
 f58:Int
 f59:Int
 f60:Int
 f61:Int
 f62:Int
 f63:Int
theorem F64.eta (a:F64):(⟨a.f0,a.f1,a.f2,a.f3,a.f4,a.f5,a.f6,a.f7,a.f8,a.f9,a.f10,a.f11,a.f12,a.f13,a.f14,a.f15,a.f16,a.f17,a.f18,a.f19,a.f20,a.f21,a.f22,a.f23,a.f24,a.f25,a.f26,a.f27,a.f28,a.f29,a.f30,a.f31,a.f32,a.f33,a.f34,a.f35,a.f36,a.f37,a.f38,a.f39,a.f40,a.f41,a.f42,a.f43,a.f44,a.f45,a.f46,a.f47,a.f48,a.f49,a.f50,a.f51,a.f52,a.f53,a.f54,a.f55,a.f56,a.f57,a.f58,a.f59,a.f60,a.f61,a.f62,a.f63⟩:F64)=a:=rfl
def F64.ok (a:F64):Prop:=inK .u8 a.f0=true∧inK .u8 a.f1=true∧inK .u8 a.f2=true∧inK .u8 a.f3=true∧inK .u8 a.f4=true∧inK .u8 a.f5=true∧inK .u8 a.f6=true∧inK .u8 a.f7=true∧inK .u8 a.f8=true∧inK .u8 a.f9=true∧inK .u8 a.f10=true∧inK .u8 a.f11=true∧inK .u8 a.f12=true∧inK .u8 a.f13=true∧inK .u8 a.f14=true∧inK .u8 a.f15=true∧inK .u8 a.f16=true∧inK .u8 a.f17=true∧inK .u8 a.f18=true∧inK .u8 a.f19=true∧inK .u8 a.f20=true∧inK .u8 a.f21=true∧inK .u8 a.f22=true∧inK .u8 a.f23=true∧inK .u8 a.f24=true∧inK .u8 a.f25=true∧inK .u8 a.f26=true∧inK .u8 a.f27=true∧inK .u8 a.f28=true∧inK .u8 a.f29=true∧inK .u8 a.f30=true∧inK .u8 a.f31=true∧inK .u8 a.f32=true∧inK .u8 a.f33=true∧inK .u8 a.f34=true∧inK .u8 a.f35=true∧inK .u8 a.f36=true∧inK .u8 a.f37=true∧inK .u8 a.f38=true∧inK .u8 a.f39=true∧inK .u8 a.f40=true∧inK .u8 a.f41=true∧inK .u8 a.f42=true∧inK .u8 a.f43=true∧inK .u8 a.f44=true∧inK .u8 a.f45=true∧inK .u8 a.f46=true∧inK .u8 a.f47=true∧inK .u8 a.f48=true∧inK .u8 a.f49=true∧inK .u8 a.f50=true∧inK .u8 a.f51=true∧inK .u8 a.f52=true∧inK .u8 a.f53=true∧inK .u8 a.f54=true∧inK .u8 a.f55=true∧inK .u8 a.f56=true∧inK .u8 a.f57=true∧inK .u8 a.f58=true∧inK .u8 a.f59=true∧inK .u8 a.f60=true∧inK .u8 a.f61=true∧inK .u8 a.f62=true∧inK .u8 a.f63=true
def kF64:List CK:=[.int .u8,.int .u8,.int .u8,.int .u8,.int .u8,.int .u8,.int .u8,.int .u8,.int .u8,.int .u8,.int .u8,.int .u8,.int .u8,.int .u8,.int .u8,.int .u8,.int .u8,.int .u8,.int .u8,.int .u8,.int .u8,.int .u8,.int .u8,.int .u8,.int .u8,.int .u8,.int .u8,.int .u8,.int .u8,.int .u8,.int .u8,.int .u8,.int .u8,.int .u8,.int .u8,.int .u8,.int .u8,.int .u8,.int .u8,.int .u8,.int .u8,.int .u8,.int .u8,.int .u8,.int .u8,.int .u8,.int .u8,.int .u8,.int .u8,.int .u8,.int .u8,.int .u8,.int .u8,.int .u8,.int .u8,.int .u8,.int .u8,.int .u8,.int .u8,.int .u8,.int .u8,.int .u8,.int .u8,.int .u8]
def jsec (m:JMd) (x:Ins):Int:=if x.br=true then[m.r0,m.r1,m.r2,m.r3,m.r4,m.r5,m.r6,m.r7,m.r8,m.r9,m.r10].getD x.s.toNat 0 else IntKind.u64.wrap x.imm
def f64 (l:List (List Int)):F64:=⟨gt l 0 0,gt l 1 0,gt l 2 0,gt l 3 0,gt l 4 0,gt l 5 0,gt l 6 0,gt l 7 0,gt l 8 0,gt l 9 0,gt l 10 0,gt l 11 0,gt l 12 0,gt l 13 0,gt l 14 0,gt l 15 0,gt l 16 0,gt l 17 0,gt l 18 0,gt l 19 0,gt l 20 0,gt l 21 0,gt l 22 0,gt l 23 0,gt l 24 0,gt l 25 0,gt l 26 0,gt l 27 0,gt l 28 0,gt l 29 0,gt l 30 0,gt l 31 0,gt l 32 0,gt l 33 0,gt l 34 0,gt l 35 0,gt l 36 0,gt l 37 0,gt l 38 0,gt l 39 0,gt l 40 0,gt l 41 0,gt l 42 0,gt l 43 0,gt l 44 0,gt l 45 0,gt l 46 0,gt l 47 0,gt l 48 0,gt l 49 0,gt l 50 0,gt l 51 0,gt l 52 0,gt l 53 0,gt l 54 0,gt l 55 0,gt l 56 0,gt l 57 0,gt l 58 0,gt l 59 0,gt l 60 0,gt l 61 0,gt l 62 0,gt l 63 0⟩
def tys_MrB:List (Nat×TI):=[(2,⟨false,1,[.int .i64 (.lit 0)],[],none,some .i64,false,false,none,8,false,none,false,0⟩),
 (3,⟨false,1,[.int .i64 (.lit 0)],[],none,some .i64,false,false,none,8,false,none,false,0⟩),
 (4,⟨false,1,[.bool (.tt false)],[],none,none,false,true,none,1,false,none,false,0⟩),
 (5,⟨false,1,[.int .u8 (.lit 0)],[],none,some .u8,false,false,none,1,false,none,false,0⟩),
 (22,⟨false,1,[.nsl],[],none,none,false,false,some 44,24,false,none,false,0⟩),
 (24,⟨true,2,[.int .i64 (.lit 0),.nsl],[(0,3),(1,22)],none,none,false,false,none,32,false,none,false,0⟩),
 (25,⟨false,1,[.nsl],[],none,none,false,false,some 5,24,false,none,false,0⟩),
 (26,⟨false,1,[.nsl],[],none,none,false,false,some 30,24,false,none,false,0⟩),
 (29,⟨false,1,[.int .i8 (.lit 0)],[],none,some .i8,false,false,none,1,false,none,false,0⟩),
 (30,⟨false,1,[.int .u64 (.lit 0)],[],none,some .u64,false,false,none,8,false,none,false,0⟩),
 (31,⟨false,1,[.nsl],[],none,none,false,false,some 39,24,false,none,false,0⟩),
 (39,⟨true,3,[.int .i64 (.lit 0),.nsl,.int .u64 (.lit 0)],[(0,3),(1,26),(2,30)],none,none,false,false,none,40,false,none,false,0⟩),
 (44,⟨true,9,[.int .i8 (.lit 0),.int .i8 (.lit 0),.int .i8 (.lit 0),.int .i8 (.lit 0),.bool (.tt false),.int .i8 (.lit 0),.int .i8 (.lit 0),.int .i64 (.lit 0),.int .i64 (.lit 0)],[(0,29),(1,29),(2,29),(3,29),(4,4),(5,29),(6,29),(7,3),(8,3)],none,none,true,false,none,24,false,none,false,0⟩),
 (53,⟨true,11,[.int .u64 (.lit 0),.int .u64 (.lit 0),.int .u64 (.lit 0),.int .u64 (.lit 0),.int .u64 (.lit 0),.int .u64 (.lit 0),.int .u64 (.lit 0),.int .u64 (.lit 0),.int .u64 (.lit 0),.int .u64 (.lit 0),.int .u64 (.lit 0)],[],some (11,30),none,false,false,none,88,false,none,false,0⟩),
 (54,⟨true,64,[.int .u8 (.lit 0),.int .u8 (.lit 0),.int .u8 (.lit 0),.int .u8 (.lit 0),.int .u8 (.lit 0),.int .u8 (.lit 0),.int .u8 (.lit 0),.int .u8 (.lit 0),.int .u8 (.lit 0),.int .u8 (.lit 0),.int .u8 (.lit 0),.int .u8 (.lit 0),.int .u8 (.lit 0),.int .u8 (.lit 0),.int .u8 (.lit 0),.int .u8 (.lit 0),.int .u8 (.lit 0),.int .u8 (.lit 0),.int .u8 (.lit 0),.int .u8 (.lit 0),.int .u8 (.lit 0),.int .u8 (.lit 0),.int .u8 (.lit 0),.int .u8 (.lit 0),.int .u8 (.lit 0),.int .u8 (.lit 0),.int .u8 (.lit 0),.int .u8 (.lit 0),.int .u8 (.lit 0),.int .u8 (.lit 0),.int .u8 (.lit 0),.int .u8 (.lit 0),.int .u8 (.lit 0),.int .u8 (.lit 0),.int .u8 (.lit 0),.int .u8 (.lit 0),.int .u8 (.lit 0),.int .u8 (.lit 0),.int .u8 (.lit 0),.int .u8 (.lit 0),.int .u8 (.lit 0),.int .u8 (.lit 0),.int .u8 (.lit 0),.int .u8 (.lit 0),.int .u8 (.lit 0),.int .u8 (.lit 0),.int .u8 (.lit 0),.int .u8 (.lit 0),.int .u8 (.lit 0),.int .u8 (.lit 0),.int .u8 (.lit 0),.int .u8 (.lit 0),.int .u8 (.lit 0),.int .u8 (.lit 0),.int .u8 (.lit 0),.int .u8 (.lit 0),.int .u8 (.lit 0),.int .u8 (.lit 0),.int .u8 (.lit 0),.int .u8 (.lit 0),.int .u8 (.lit 0),.int .u8 (.lit 0),.int .u8 (.lit 0),.int .u8 (.lit 0)],[],some (64,5),none,false,false,none,64,false,none,false,0⟩),
 (56,⟨true,76,[.int .u64 (.lit 0),.int .u64 (.lit 0),.int .u64 (.lit 0),.int .u64 (.lit 0),.int .u64 (.lit 0),.int .u64 (.lit 0),.int .u64 (.lit 0),.int .u64 (.lit 0),.int .u64 (.lit 0),.int .u64 (.lit 0),.int .u64 (.lit 0),.int .i64 (.lit 0),.int .u8 (.lit 0),.int .u8 (.lit 0),.int .u8 (.lit 0),.int .u8 (.lit 0),.int .u8 (.lit 0),.int .u8 (.lit 0),.int .u8 (.lit 0),.int .u8 (.lit 0),.int .u8 (.lit 0),.int .u8 (.lit 0),.int .u8 (.lit 0),.int .u8 (.lit 0),.int .u8 (.lit 0),.int .u8 (.lit 0),.int .u8 (.lit 0),.int .u8 (.lit 0),.int .u8 (.lit 0),.int .u8 (.lit 0),.int .u8 (.lit 0),.int .u8 (.lit 0),.int .u8 (.lit 0),.int .u8 (.lit 0),.int .u8 (.lit 0),.int .u8 (.lit 0),.int .u8 (.lit 0),.int .u8 (.lit 0),.int .u8 (.lit 0),.int .u8 (.lit 0),.int .u8 (.lit 0),.int .u8 (.lit 0),.int .u8 (.lit 0),.int .u8 (.lit 0),.int .u8 (.lit 0),.int .u8 (.lit 0),.int .u8 (.lit 0),.int .u8 (.lit 0),.int .u8 (.lit 0),.int .u8 (.lit 0),.int .u8 (.lit 0),.int .u8 (.lit 0),.int .u8 (.lit 0),.int .u8 (.lit 0),.int .u8 (.lit 0),.int .u8 (.lit 0),.int .u8 (.lit 0),.int .u8 (.lit 0),.int .u8 (.lit 0),.int .u8 (.lit 0),.int .u8 (.lit 0),.int .u8 (.lit 0),.int .u8 (.lit 0),.int .u8 (.lit 0),.int .u8 (.lit 0),.int .u8 (.lit 0),.int .u8 (.lit 0),.int .u8 (.lit 0),.int .u8 (.lit 0),.int .u8 (.lit 0),.int .u8 (.lit 0),.int .u8 (.lit 0),.int .u8 (.lit 0),.int .u8 (.lit 0),.int .u8 (.lit 0),.int .u8 (.lit 0)],[(0,53),(11,3),(12,54)],none,none,false,false,none,160,false,none,false,0⟩),
 (75,⟨false,1,[.nilp],[],none,none,false,false,none,8,false,none,false,1⟩),
 (77,⟨true,82,[.int .i64 (.lit 0),.nsl,.nilp,.int .u64 (.lit 0),.int .u64 (.lit 0),.int .u64 (.lit 0),.int .u64 (.lit 0),.int .u64 (.lit 0),.int .u64 (.lit 0),.int .u64 (.lit 0),.int .u64 (.lit 0),.int .u64 (.lit 0),.int .u64 (.lit 0),.int .u64 (.lit 0),.int .i64 (.lit 0),.int .u8 (.lit 0),.int .u8 (.lit 0),.int .u8 (.lit 0),.int .u8 (.lit 0),.int .u8 (.lit 0),.int .u8 (.lit 0),.int .u8 (.lit 0),.int .u8 (.lit 0),.int .u8 (.lit 0),.int .u8 (.lit 0),.int .u8 (.lit 0),.int .u8 (.lit 0),.int .u8 (.lit 0),.int .u8 (.lit 0),.int .u8 (.lit 0),.int .u8 (.lit 0),.int .u8 (.lit 0),.int .u8 (.lit 0),.int .u8 (.lit 0),.int .u8 (.lit 0),.int .u8 (.lit 0),.int .u8 (.lit 0),.int .u8 (.lit 0),.int .u8 (.lit 0),.int .u8 (.lit 0),.int .u8 (.lit 0),.int .u8 (.lit 0),.int .u8 (.lit 0),.int .u8 (.lit 0),.int .u8 (.lit 0),.int .u8 (.lit 0),.int .u8 (.lit 0),.int .u8 (.lit 0),.int .u8 (.lit 0),.int .u8 (.lit 0),.int .u8 (.lit 0),.int .u8 (.lit 0),.int .u8 (.lit 0),.int .u8 (.lit 0),.int .u8 (.lit 0),.int .u8 (.lit 0),.int .u8 (.lit 0),.int .u8 (.lit 0),.int .u8 (.lit 0),.int .u8 (.lit 0),.int .u8 (.lit 0),.int .u8 (.lit 0),.int .u8 (.lit 0),.int .u8 (.lit 0),.int .u8 (.lit 0),.int .u8 (.lit 0),.int .u8 (.lit 0),.int .u8 (.lit 0),.int .u8 (.lit 0),.int .u8 (.lit 0),.int .u8 (.lit 0),.int .u8 (.lit 0),.int .u8 (.lit 0),.int .u8 (.lit 0),.int .u8 (.lit 0),.int .u8 (.lit 0),.int .u8 (.lit 0),.int .u8 (.lit 0),.int .u8 (.lit 0),.int .i64 (.lit 0),.nsl,.nsl],[(0,24),(2,75),(3,56),(79,3),(80,26),(81,31)],none,none,false,false,none,256,false,none,false,0⟩),
 (101,⟨true,4,[.nsl,.nsl,.nsl,.nsl],[(0,25),(1,25),(2,25),(3,25)],none,none,false,false,none,96,false,none,false,0⟩)]
set_option maxRecDepth 100000 in
theorem uj:(tys_MrB.all fun p=>ckTI Try.prog p.1 p.2)=true:=by kernel_rfl
theorem mZ:(tys_MrB.all fun p=>!p.2.eqok||((Nat.beq p.1 44&&bv p.2.zero iF)))=true:=by kernel_rfl
theorem tZ:(tys_MrB.all fun p=>!p.2.keyok)=true:=by kernel_rfl
theorem bR:∀t i,(t,i)∈tys_MrB→TIok Try.prog t i:=by
 intro t i h
 refine cQ (eY (f:=ckTI Try.prog) uj h) (fun he=> ?_) (fun he=> ?_) (fun he=> ?_)
 ·have h1:=List.all_eq_true.1 mZ (t,i) h
  simp only[he,Bool.not_true,Bool.false_or,Bool.or_eq_true,Bool.and_eq_true] at h1
  have hs:=h1.2
  obtain rfl:=Nat.eq_of_beq_eq_true h1.1
  exact fun vs us hv hu=>iA vs us (aB hs hv) (aB hs hu)
 ·have h1:=List.all_eq_true.1 mZ (t,i) h
  simp only[he,Bool.not_true,Bool.false_or,Bool.or_eq_true,Bool.and_eq_true] at h1
  have hs:=h1.2
  obtain rfl:=Nat.eq_of_beq_eq_true h1.1
  exact ek
 ·have h1:=List.all_eq_true.1 tZ (t,i) h
  simp[he] at h1
def fN (key:Nat):Sm:=⟨43,key,[.one (.int .i8),.one (.int .i8),.one (.int .u64),.one (.int .u64)],[.one (.int .u64),.one (.int .i64)],true⟩
def fJ (op:Int) (l:Int) (x:Int) (y:Int):List Dt:=[.z (if okop op l=true then zdo op l x y else 0),.z (if okop op l=true then 0 else 2)]
def ew:List Dt→List Dt
 | [.z x0,.z x1,.z x2,.z x3]=>fJ x0 x1 x2 x3
 | _=>[]
theorem ya (op:Int) (hop:inK .i8 op=true) (l:Int) (hl:inK .i8 l=true) (x:Int) (hx:inK .u64 x=true) (y:Int) (hy:inK .u64 y=true):(∀w,Calls Try.prog 43 #[.int .i8 op,.int .i8 l,.int .u64 x,.int .u64 y] w fun e w'=>e=.returned (.tuple #[.int .u64 (if okop op l=true then zdo op l x y else 0),.int .i64 (if okop op l=true then 0 else 2)])∧Ext w w')∧eM (.tuple #[.int .u64 (if okop op l=true then zdo op l x y else 0),.int .i64 (if okop op l=true then 0 else 2)])=true:=by
 have gx:=eh hx
 have gy:=eh hy
 cases hk:okop op l
 ·refine⟨fun w=>(aaY op l x y w ?_).mono ?_,by simp[eM,cK,cO]; decide⟩
  ·unfold okop at hk
   rw[Bool.and_eq_false_iff,Bool.and_eq_false_iff] at hk
   rcases hk with(hk | hk) | hk
   ·have:=of_decide_eq_false hk
    simp; omega
   ·have:=of_decide_eq_false hk
    simp; omega
   ·rw[hk]; simp
  ·rintro e w' ⟨rfl,rfl⟩
   exact⟨by simp,Ext.refl _⟩
 ·unfold okop at hk
  simp only[Bool.and_eq_true,decide_eq_true_eq] at hk
  have hz:=tR (zl op l x y gx.1 gx.2 gy.1 gy.2)
  refine⟨fun w=>(aaZ op l x y w gx.1 gx.2 gy.1 gy.2 hk.1.1 hk.1.2 hk.2).mono ?_,by simp[eM,cK,cO,hz]; decide⟩
  rintro e w' ⟨rfl,hx⟩
  first
  | exact⟨by simp,hx⟩
  | (subst hx; exact⟨by simp,Ext.refl _⟩)
theorem yq {sp:Spec} {key:Nat} (hF:sp.F key=ew):SmOk Try.prog sp (fN key):=by
 refine SmOk.pure hF rfl rfl fun xs vals w h=> ?_
 obtain⟨_,_,_,rfl,⟨x0,rfl,rfl,gx0⟩,h⟩:=h
 obtain⟨_,_,_,rfl,⟨x1,rfl,rfl,gx1⟩,h⟩:=h
 obtain⟨_,_,_,rfl,⟨x2,rfl,rfl,gx2⟩,h⟩:=h
 obtain⟨_,_,_,rfl,⟨x3,rfl,rfl,gx3⟩,h⟩:=h
 obtain⟨rfl,rfl⟩:=h
 have q:=ya x0 gx0 x1 gx1 x2 gx2 x3 gx3
 refine⟨_,.inr ⟨da Try.func43 (by kernel_rfl) (by kernel_rfl) _ w,q.1 w⟩,?_,fun ρ v0 nid j he=> ?_⟩
 ·have q2:=q.2
  simp[eM,cK,cO] at q2
  simp[fN,ew,fJ,List.flatMap_cons,List.flatMap_nil,Sh.cks,List.append_nil,List.cons_append,List.nil_append,b2i_one,dY,q2]
 ·simp only[fN,ew,fJ,List.flatMap_cons,List.flatMap_nil,Sh.cks,List.append_nil,List.cons_append,List.nil_append,b2i_one,eqs,dI,dB,List.getElem?_cons_zero,List.getElem?_cons_succ,Nat.zero_add,Nat.add_zero,Nat.reduceAdd,and_true] at he
  simp[fN,ew,fJ,List.flatMap_cons,List.flatMap_nil,Sh.cks,List.append_nil,List.cons_append,List.nil_append,b2i_one,eS,aV,ax,V.den,C.den,denL,den0,bh,E.I,E.B,he]
def jv (key:Nat):Sm:=⟨49,key,[.one (.int .i8),.one (.int .i8),.one (.int .u64),.one (.int .u64)],[.one .bool,.one (.int .i64)],true⟩
def jk (cc:Int) (l:Int) (x:Int) (y:Int):List Dt:=[.z (b2i ((okcc cc l&&iE cc l x y))),.z (if okcc cc l=true then 0 else 2)]
def gN:List Dt→List Dt
 | [.z x0,.z x1,.z x2,.z x3]=>jk x0 x1 x2 x3
 | _=>[]
theorem aar (cc:Int) (hcc:inK .i8 cc=true) (l:Int) (hl:inK .i8 l=true) (x:Int) (hx:inK .u64 x=true) (y:Int) (hy:inK .u64 y=true):(∀w,Calls Try.prog 49 #[.int .i8 cc,.int .i8 l,.int .u64 x,.int .u64 y] w fun e w'=>e=.returned (.tuple #[.bool ((okcc cc l&&iE cc l x y)),.int .i64 (if okcc cc l=true then 0 else 2)])∧Ext w w')∧eM (.tuple #[.bool ((okcc cc l&&iE cc l x y)),.int .i64 (if okcc cc l=true then 0 else 2)])=true:=by
 have gx:=eh hx
 have gy:=eh hy
 cases hk:okcc cc l
 ·refine⟨fun w=>(sR cc l x y w ?_).mono ?_,by simp[eM,cK,cO]; decide⟩
  ·unfold okcc at hk
   rw[Bool.and_eq_false_iff,Bool.and_eq_false_iff] at hk
   rcases hk with(hk | hk) | hk
   ·have:=of_decide_eq_false hk
    simp; omega
   ·have:=of_decide_eq_false hk
    simp; omega
   ·rw[hk]; simp
  ·rintro e w' ⟨rfl,rfl⟩
   exact⟨by simp,Ext.refl _⟩
 ·unfold okcc at hk
  simp only[Bool.and_eq_true,decide_eq_true_eq] at hk
  refine⟨fun w=>(sS cc l x y w gx.1 gx.2 gy.1 gy.2 hk.1.1 hk.1.2 hk.2).mono ?_,by simp[eM,cK,cO]; decide⟩
  rintro e w' ⟨rfl,rfl⟩
  exact⟨by simp,Ext.refl _⟩
theorem aaN {sp:Spec} {key:Nat} (hF:sp.F key=gN):SmOk Try.prog sp (jv key):=by
 refine SmOk.pure hF rfl rfl fun xs vals w h=> ?_
 obtain⟨_,_,_,rfl,⟨x0,rfl,rfl,gx0⟩,h⟩:=h
 obtain⟨_,_,_,rfl,⟨x1,rfl,rfl,gx1⟩,h⟩:=h
 obtain⟨_,_,_,rfl,⟨x2,rfl,rfl,gx2⟩,h⟩:=h
 obtain⟨_,_,_,rfl,⟨x3,rfl,rfl,gx3⟩,h⟩:=h
 obtain⟨rfl,rfl⟩:=h
 have q:=aar x0 gx0 x1 gx1 x2 gx2 x3 gx3
 refine⟨_,.inr ⟨da Try.func49 (by kernel_rfl) (by kernel_rfl) _ w,q.1 w⟩,?_,fun ρ v0 nid j he=> ?_⟩
 ·have q2:=q.2
  simp[eM,cK,cO] at q2
  simp[jv,gN,jk,List.flatMap_cons,List.flatMap_nil,Sh.cks,List.append_nil,List.cons_append,List.nil_append,b2i_one,dY,q2]
 ·simp only[jv,gN,jk,List.flatMap_cons,List.flatMap_nil,Sh.cks,List.append_nil,List.cons_append,List.nil_append,b2i_one,eqs,dI,dB,List.getElem?_cons_zero,List.getElem?_cons_succ,Nat.zero_add,Nat.add_zero,Nat.reduceAdd,and_true] at he
  simp[jv,gN,jk,List.flatMap_cons,List.flatMap_nil,Sh.cks,List.append_nil,List.cons_append,List.nil_append,b2i_one,eS,aV,ax,V.den,C.den,denL,den0,bh,E.I,E.B,he]
def qK (key:Nat):Sm:=⟨69,key,[.one (.int .i64)],[.one .bool],false⟩
def qB (n:Int):List Dt:=[.z (b2i (aJ n))]
def jH:List Dt→List Dt
 | [.z x0]=>qB x0
 | _=>[]
def sT_jsd:Tr:=
(.br (.eq (.var 0) (.lit 1))
(.leaf (.consb (.tt true) .nil))
(.br (.eq (.var 0) (.lit 2))
(.leaf (.consb (.tt true) .nil))
(.br (.eq (.var 0) (.lit 4))
(.leaf (.consb (.tt true) .nil))
(.leaf (.consb (.eq (.var 0) (.lit 8)) .nil)))))
def zt:Spec:=⟨fun k=>match k with | _=>fun _=>[],fun k=>match k with | _=>fun _=>True⟩
set_option maxRecDepth 100000 in
theorem ab9:aM tys_MrB [] [] [] [] 200 Try.f69 [.one (.int .i64)] [.one .bool] false [.int .i64] sT_jsd:=⟨by kernel_rfl,by kernel_rfl,by kernel_rfl⟩
set_option maxRecDepth 100000 in
set_option maxHeartbeats 8000000 in
theorem ab4 (n:Int) (hn:inK .i64 n=true) (ρ:Env) (g:ah ρ 0 [.int .i64]=[.z n]):sT_jsd.asks zt (fun ρ e=>e.D ρ=jH [.z n]) ρ fun _ _=>False:=by
 simp only[ah,varD,List.cons.injEq,Dt.z.injEq,Dt.l.injEq,b2i_eq_iff,Nat.reduceAdd,and_true] at g
 simp only[sT_jsd,zt,jH,qB,Tr.asks,am,okDs,okD,eqs,E.I,E.B,E.L,E.R,E.D,E.vs,dI,dB,dL,varD,ah,List.getElem?_cons_zero,List.getElem?_cons_succ,List.cons_append,List.nil_append,Nat.zero_add,Nat.add_zero,Nat.reduceAdd,and_true,true_and,b2i_one,-eq_self,Ins.eta,Prog.eta,aa,Mem.eta,Mach.eta,g]
 refine⟨fun c0=> ?_,fun c0=> ?_⟩
 ·(refine zb ?_; unfold aJ; rw[Bool.eq_iff_iff]; simp at *; omega)
 refine⟨fun c1=> ?_,fun c1=> ?_⟩
 ·(refine zb ?_; unfold aJ; rw[Bool.eq_iff_iff]; simp at *; omega)
 refine⟨fun c2=> ?_,fun c2=> ?_⟩
 ·(refine zb ?_; unfold aJ; rw[Bool.eq_iff_iff]; simp at *; omega)
 ·(refine zb ?_; unfold aJ; rw[Bool.eq_iff_iff]; simp at *; omega)
theorem zx {sp:Spec} {key:Nat} (hF:sp.F key=jH) (hP:sp.pre key=fun _=>True:=by rfl):SmOk Try.prog sp (qK key):=
 aS (s:=qK key) hF hP (by kernel_rfl) bR (sm0) Try.func69 fn0 ab9 (.inl rfl) (fun x0 gx0 hp ρ g=>ab4 x0 gx0 ρ g)
def iQ (key:Nat):Sm:=⟨82,key,[.one (.int .u64),.one (.int .i64),.one (.int .u64),.one (.sl [some .u8] 5)],[.one (.int .i64),.one .bool],true⟩
def iM (at_:Int) (n:Int) (base:Int) (b:List (List Int)):List Dt:=[.z (wiK base b at_),.z (b2i (inr base b at_ n))]
def di:List Dt→List Dt
 | [.z x0,.z x1,.z x2,.l x3]=>iM x0 x1 x2 x3
 | _=>[]
def sT_jwith:Tr:=
(.br (.lt (.var 0) (.var 2))
(.leaf (.cons (.lit 0) (.consb (.tt false) .nil)))
(.br (.lt (.bin .sub .u64 (.var 0) (.var 2)) (.conv .u64 (.len (.lvar 3))))
(.leaf (.cons (.conv .i64 (.bin .sub .u64 (.var 0) (.var 2))) (.consb (.not (.lt (.bin .sub .i64 (.len (.lvar 3)) (.conv .i64 (.bin .sub .u64 (.var 0) (.var 2)))) (.var 1))) .nil)))
(.leaf (.cons (.lit 0) (.consb (.tt false) .nil)))))
def qF:Spec:=⟨fun k=>match k with | _=>fun _=>[],fun k=>match k with | _=>fun _=>True⟩
set_option maxRecDepth 100000 in
theorem yl:aM tys_MrB [] [] [] [] 200 Try.f82 [.one (.int .u64),.one (.int .i64),.one (.int .u64),.one (.sl [some .u8] 5)] [.one (.int .i64),.one .bool] true [.int .u64,.int .i64,.int .u64,.list [some .u8]] sT_jwith:=⟨by kernel_rfl,by kernel_rfl,by kernel_rfl⟩
def cI:List Dt→Prop
 | [.z x0,.z x1,.z x2,.l x3]=>let f (at_:Int) (n:Int) (base:Int) (b:List (List Int)):Prop:=(1≤n∧n≤8)∧b.length≤1048576; f x0 x1 x2 x3
 | _=>False
set_option maxRecDepth 100000 in
set_option maxHeartbeats 8000000 in
theorem yd (at_:Int) (hat_:inK .u64 at_=true) (n:Int) (hn:inK .i64 n=true) (base:Int) (hbase:inK .u64 base=true) (b:List (List Int)) (hb:RowsIn [some .u8] b) (hp:cI [.z at_,.z n,.z base,.l b]) (ρ:Env) (g:ah ρ 0 [.int .u64,.int .i64,.int .u64,.list [some .u8]]=[.z at_,.z n,.z base,.l b]):sT_jwith.asks qF (fun ρ e=>e.D ρ=di [.z at_,.z n,.z base,.l b]) ρ fun _ _=>False:=by
 simp only[cI,b2i_one,Ins.eta,Prog.eta,aa,Mem.eta,Mach.eta] at hp
 simp only[ah,varD,List.cons.injEq,Dt.z.injEq,Dt.l.injEq,b2i_eq_iff,Nat.reduceAdd,and_true] at g
 simp only[sT_jwith,qF,di,iM,Tr.asks,am,okDs,okD,eqs,E.I,E.B,E.L,E.R,E.D,E.vs,dI,dB,dL,varD,ah,List.getElem?_cons_zero,List.getElem?_cons_succ,List.cons_append,List.nil_append,Nat.zero_add,Nat.add_zero,Nat.reduceAdd,and_true,true_and,b2i_one,-eq_self,Ins.eta,Prog.eta,aa,Mem.eta,Mach.eta,g]
 have hb0:=(kf hbase).1
 refine⟨fun c0=> ?_,fun c0=> ?_⟩
 ·obtain⟨q1,q2⟩:=acS (l:=b) (n:=n) c0
  rw[←q1,←q2]
 refine⟨fun c1=> ?_,fun c1=> ?_⟩
 ·obtain⟨q1,q2⟩:=acT (l:=b) (n:=n) hat_ hb0 hp.2 hp.1.1 hp.1.2 c0 c1
  rw[q2,q1]
 ·obtain⟨q1,q2⟩:=abY (l:=b) (n:=n) hat_ hb0 hp.2 hp.1.1 c0 c1
  rw[←q1,←q2]
theorem qN {sp:Spec} {key:Nat} (hF:sp.F key=di) (hP:sp.pre key=cI):SmOk Try.prog sp (iQ key):=
 aS (s:=iQ key) hF hP (by kernel_rfl) bR (sm0) Try.func82 fn0 yl (.inr (.inl ⟨(fun xs h L hL=>by unfold cI at h; split at h<;>first | exact h.elim | (simp at hL; rcases hL with rfl; exact Nat.le_trans h.2 (by decide))),rfl⟩)) (fun x0 gx0 x1 gx1 x2 gx2 x3 gx3 hp ρ g=>yd x0 gx0 x1 gx1 x2 gx2 x3 gx3 hp ρ g)
def jA (key:Nat):Sm:=⟨46,key,[.ptr td,.one (.int .u64),.one (.int .i64)],[.one (.int .u64),.one (.int .i64)],true⟩
def jp (m:JMem) (at_:Int) (n:Int):List Dt:=[.z (rdV (memB m.l0 m.l1 m.l2 m.l3) at_ n),.z (rdE (memB m.l0 m.l1 m.l2 m.l3) at_ n)]
def dR:List Dt→List Dt
 | [.l x0,.l x1,.l x2,.l x3,.z x4,.z x5]=>jp ⟨x0,x1,x2,x3⟩ x4 x5
 | _=>[]
def sT_jmread:Tr:=
(.call 0 [.bool] (.cons (.var 5) .nil) 6
(.br (.bvar 6)
(.call 1 [.int .i64,.bool] (.vs 4 2 (.cons (.lit 1048576) (.consl (.lvar 0) .nil))) 7
(.br (.bvar 8)
(.loop 0 9 [.int .u64,.int .i64] (.cons (.lit 0) (.cons (.bin .sub .i64 (.var 5) (.lit 1)) .nil))
(.br (.lt (.var 10) (.lit 0))
(.leaf (.cons (.var 9) (.cons (.lit 0) .nil)))
(.br (.lt (.bin .add .i64 (.var 7) (.var 10)) (.lit 0))
.panic
(.br (.lt (.bin .add .i64 (.var 7) (.var 10)) (.len (.lvar 0)))
(.next 0 (.cons (.bin .or .u64 (.bin .shl .u64 (.var 9) (.lit 8)) (.conv .u64 (.get (.lvar 0) (.bin .add .i64 (.var 7) (.var 10)) 0))) (.cons (.bin .sub .i64 (.var 10) (.lit 1)) .nil)))
.panic))))
(.call 1 [.int .i64,.bool] (.vs 4 2 (.cons (.lit 2097152) (.consl (.lvar 1) .nil))) 9
(.br (.bvar 10)
(.loop 0 11 [.int .u64,.int .i64] (.cons (.lit 0) (.cons (.bin .sub .i64 (.var 5) (.lit 1)) .nil))
(.br (.lt (.var 12) (.lit 0))
(.leaf (.cons (.var 11) (.cons (.lit 0) .nil)))
(.br (.lt (.bin .add .i64 (.var 9) (.var 12)) (.lit 0))
.panic
(.br (.lt (.bin .add .i64 (.var 9) (.var 12)) (.len (.lvar 1)))
(.next 0 (.cons (.bin .or .u64 (.bin .shl .u64 (.var 11) (.lit 8)) (.conv .u64 (.get (.lvar 1) (.bin .add .i64 (.var 9) (.var 12)) 0))) (.cons (.bin .sub .i64 (.var 12) (.lit 1)) .nil)))
.panic))))
(.call 1 [.int .i64,.bool] (.vs 4 2 (.cons (.lit 3145728) (.consl (.lvar 2) .nil))) 11
(.br (.bvar 12)
(.loop 0 13 [.int .u64,.int .i64] (.cons (.lit 0) (.cons (.bin .sub .i64 (.var 5) (.lit 1)) .nil))
(.br (.lt (.var 14) (.lit 0))
(.leaf (.cons (.var 13) (.cons (.lit 0) .nil)))
(.br (.lt (.bin .add .i64 (.var 11) (.var 14)) (.lit 0))
.panic
(.br (.lt (.bin .add .i64 (.var 11) (.var 14)) (.len (.lvar 2)))
(.next 0 (.cons (.bin .or .u64 (.bin .shl .u64 (.var 13) (.lit 8)) (.conv .u64 (.get (.lvar 2) (.bin .add .i64 (.var 11) (.var 14)) 0))) (.cons (.bin .sub .i64 (.var 14) (.lit 1)) .nil)))
.panic))))
(.call 1 [.int .i64,.bool] (.vs 4 2 (.cons (.lit 4194304) (.consl (.lvar 3) .nil))) 13
(.br (.bvar 14)
(.loop 0 15 [.int .u64,.int .i64] (.cons (.lit 0) (.cons (.bin .sub .i64 (.var 5) (.lit 1)) .nil))
(.br (.lt (.var 16) (.lit 0))
(.leaf (.cons (.var 15) (.cons (.lit 0) .nil)))
(.br (.lt (.bin .add .i64 (.var 13) (.var 16)) (.lit 0))
.panic
(.br (.lt (.bin .add .i64 (.var 13) (.var 16)) (.len (.lvar 3)))
(.next 0 (.cons (.bin .or .u64 (.bin .shl .u64 (.var 15) (.lit 8)) (.conv .u64 (.get (.lvar 3) (.bin .add .i64 (.var 13) (.var 16)) 0))) (.cons (.bin .sub .i64 (.var 16) (.lit 1)) .nil)))
.panic))))
(.leaf (.cons (.lit 0) (.cons (.lit 20) .nil)))))))))))
(.leaf (.cons (.lit 0) (.cons (.lit 2) .nil)))))
def nL:Spec:=⟨fun k=>match k with | 0=>jH | 1=>di | _=>fun _=>[],fun k=>match k with | 1=>cI | _=>fun _=>True⟩
set_option maxRecDepth 100000 in
theorem vo:aM tys_MrB [qK 0,iQ 1] [(70,Try.f70,[],[])] [(10,[.tmpI 11 .u64,.tmpI 12 .i64,.top 30,.top 31,.top 34,.top 35,.top 36,.top 37,.top 38,.top 39,.top 40,.top 41,.top 42,.top 43,.top 32,.top 33]),(999998,[])] [] 200 Try.f46 [.ptr td,.one (.int .u64),.one (.int .i64)] [.one (.int .u64),.one (.int .i64)] true [.list [some .u8],.list [some .u8],.list [some .u8],.list [some .u8],.int .u64,.int .i64] sT_jmread:=⟨by kernel_rfl,by kernel_rfl,by kernel_rfl⟩
def cU:List Dt→Prop
 | [.l x0,.l x1,.l x2,.l x3,.z x4,.z x5]=>let f (m:JMem) (at_:Int) (n:Int):Prop:=m.l0=[]∧m.l1.length≤256∧m.l2.length=64∧m.l3=[]; f ⟨x0,x1,x2,x3⟩ x4 x5
 | _=>False
set_option maxRecDepth 100000 in
set_option maxHeartbeats 8000000 in
theorem vb (m:JMem) (hm:JMem.ok m) (at_:Int) (hat_:inK .u64 at_=true) (n:Int) (hn:inK .i64 n=true) (hp:cU [.l m.l0,.l m.l1,.l m.l2,.l m.l3,.z at_,.z n]) (ρ:Env) (g:ah ρ 0 [.list [some .u8],.list [some .u8],.list [some .u8],.list [some .u8],.int .u64,.int .i64]=[.l m.l0,.l m.l1,.l m.l2,.l m.l3,.z at_,.z n]):sT_jmread.asks nL (fun ρ e=>e.D ρ=dR [.l m.l0,.l m.l1,.l m.l2,.l m.l3,.z at_,.z n]) ρ fun _ _=>False:=by
 simp only[cU,b2i_one,Ins.eta,Prog.eta,aa,Mem.eta,Mach.eta] at hp
 have keepg:=g
 simp only[ah,varD,List.cons.injEq,Dt.z.injEq,Dt.l.injEq,b2i_eq_iff,Nat.reduceAdd,and_true] at g
 simp only[sT_jmread,nL,jH,di,qB,iM,dR,jp,cI,Tr.asks,am,okDs,okD,eqs,E.I,E.B,E.L,E.R,E.D,E.vs,dI,dB,dL,varD,ah,List.getElem?_cons_zero,List.getElem?_cons_succ,List.cons_append,List.nil_append,Nat.zero_add,Nat.add_zero,Nat.reduceAdd,and_true,true_and,b2i_one,-eq_self,Ins.eta,Prog.eta,aa,Mem.eta,Mach.eta,g]
 obtain⟨k0_l0,k0_l1,k0_l2,k0_l3,k0_i4,k0_i5⟩:=g
 obtain⟨r0,r1,r2,r3⟩:=hm
 have hl0:m.l0.length≤1048576:=by rw[hp.1]; decide
 have hl1:m.l1.length≤1048576:=Nat.le_trans hp.2.1 (by decide)
 have hl2:m.l2.length≤1048576:=by rw[hp.2.2.1]; decide
 have hl3:m.l3.length≤1048576:=by rw[hp.2.2.2]; decide
 intro e; (try simp only[e,Ins.eta,Prog.eta,aa,Mem.eta,Mach.eta,-eq_self]); clear e
 refine⟨fun c0=> ?_,fun c0=> ?_⟩
 refine⟨?_,?_⟩
 ·exact⟨by have:=aI c0; omega,hl0⟩
 intro e; have k0_i7:=e.1; (try simp only[e,Ins.eta,Prog.eta,aa,Mem.eta,Mach.eta,-eq_self]); clear e
 refine⟨fun c1=> ?_,fun c1=> ?_⟩
 have hs:aJ n=true:=c0
 have hn3:=aI hs
 have f0:inr 1048576 m.l0 at_ n=true:=c1
 have W:=Win.of f0 hat_ (by decide) hl0 (by omega) (by omega)
 refine⟨fun ds=>∃k:Nat,ds=[.z (numL ((winL 1048576 m.l0 at_ n).drop k)),.z ((k:Int)-1)]∧k≤n.toNat,fun ds=>(dI ds 1+1).toNat,⟨n.toNat,by rw[sub1 (by omega) (by omega),List.drop_eq_nil_of_le (by rw[W.len]; exact Nat.le_refl _),show((n.toNat:Nat):Int)-1=n-1 by omega]; rfl,Nat.le_refl _⟩,?_⟩
 intro ρ1 ha1 _ hi1
 obtain⟨k,hds,hk⟩:=hi1
 simp only[List.cons.injEq,Dt.z.injEq,Dt.l.injEq,b2i_eq_iff,and_true] at hds
 obtain⟨k1_i9,k1_i10⟩:=hds
 have k1_l0:=kL ha1 k0_l0
 have k1_i7:ρ1.i 7=at_-1048576:=(kI ha1 k0_i7).trans (kH f0 (by omega))
 simp only[k1_i9,k1_i10,k1_l0,k1_i7,-eq_self]
 refine⟨fun c2=> ?_,fun c2=> ?_⟩
 ·have hs:aJ n=true:=c0
  have hn3:=aI hs
  have f0:inr 1048576 m.l0 at_ n=true:=c1
  obtain rfl:k=0:=by have:=of_decide_eq_true c2; omega
  simp[rdV,rdE,Mem.reg,memB,hs,f0]
 refine⟨fun c3=> ?_,fun c3=> ?_⟩
 ·have w1:=W.lo; have w2:=W.hi; have w3:=W.len
  obtain⟨j,rfl⟩:∃j,k=j+1:=⟨k-1,by have:=of_decide_eq_false c2; omega⟩
  rw[show(((j+1:Nat):Int)-1)=(j:Int) by omega,(W.byte hl0 (by omega)).1] at c3
  exact absurd (of_decide_eq_true c3) (by omega)
 refine⟨fun c4=> ?_,fun c4=> ?_⟩
 ·obtain⟨j,rfl⟩:∃j,k=j+1:=⟨k-1,by have:=of_decide_eq_false c2; omega⟩
  exact W.next hl0 r0 hk
 ·have w1:=W.lo; have w2:=W.hi; have w3:=W.len
  obtain⟨j,rfl⟩:∃j,k=j+1:=⟨k-1,by have:=of_decide_eq_false c2; omega⟩
  rw[show(((j+1:Nat):Int)-1)=(j:Int) by omega,(W.byte hl0 (by omega)).1] at c4
  exact absurd (of_decide_eq_false c4) (by omega)
 refine⟨?_,?_⟩
 ·exact⟨by have:=aI c0; omega,hl1⟩
 intro e; have k0_i9:=e.1; (try simp only[e,Ins.eta,Prog.eta,aa,Mem.eta,Mach.eta,-eq_self]); clear e
 refine⟨fun c5=> ?_,fun c5=> ?_⟩
 have hs:aJ n=true:=c0
 have hn3:=aI hs
 have f0:inr 1048576 m.l0 at_ n=false:=c1
 have f1:inr 2097152 m.l1 at_ n=true:=c5
 have W:=Win.of f1 hat_ (by decide) hl1 (by omega) (by omega)
 refine⟨fun ds=>∃k:Nat,ds=[.z (numL ((winL 2097152 m.l1 at_ n).drop k)),.z ((k:Int)-1)]∧k≤n.toNat,fun ds=>(dI ds 1+1).toNat,⟨n.toNat,by rw[sub1 (by omega) (by omega),List.drop_eq_nil_of_le (by rw[W.len]; exact Nat.le_refl _),show((n.toNat:Nat):Int)-1=n-1 by omega]; rfl,Nat.le_refl _⟩,?_⟩
 intro ρ1 ha1 _ hi1
 obtain⟨k,hds,hk⟩:=hi1
 simp only[List.cons.injEq,Dt.z.injEq,Dt.l.injEq,b2i_eq_iff,and_true] at hds
 obtain⟨k1_i11,k1_i12⟩:=hds
 have k1_l1:=kL ha1 k0_l1
 have k1_i9:ρ1.i 9=at_-2097152:=(kI ha1 k0_i9).trans (kH f1 (by omega))
 simp only[k1_i11,k1_i12,k1_l1,k1_i9,-eq_self]
 refine⟨fun c6=> ?_,fun c6=> ?_⟩
 ·have hs:aJ n=true:=c0
  have hn3:=aI hs
  have f0:inr 1048576 m.l0 at_ n=false:=c1
  have f1:inr 2097152 m.l1 at_ n=true:=c5
  obtain rfl:k=0:=by have:=of_decide_eq_true c6; omega
  simp[rdV,rdE,Mem.reg,memB,hs,f0,f1]
 refine⟨fun c7=> ?_,fun c7=> ?_⟩
 ·have w1:=W.lo; have w2:=W.hi; have w3:=W.len
  obtain⟨j,rfl⟩:∃j,k=j+1:=⟨k-1,by have:=of_decide_eq_false c6; omega⟩
  rw[show(((j+1:Nat):Int)-1)=(j:Int) by omega,(W.byte hl1 (by omega)).1] at c7
  exact absurd (of_decide_eq_true c7) (by omega)
 refine⟨fun c8=> ?_,fun c8=> ?_⟩
 ·obtain⟨j,rfl⟩:∃j,k=j+1:=⟨k-1,by have:=of_decide_eq_false c6; omega⟩
  exact W.next hl1 r1 hk
 ·have w1:=W.lo; have w2:=W.hi; have w3:=W.len
  obtain⟨j,rfl⟩:∃j,k=j+1:=⟨k-1,by have:=of_decide_eq_false c6; omega⟩
  rw[show(((j+1:Nat):Int)-1)=(j:Int) by omega,(W.byte hl1 (by omega)).1] at c8
  exact absurd (of_decide_eq_false c8) (by omega)
 refine⟨?_,?_⟩
 ·exact⟨by have:=aI c0; omega,hl2⟩
 intro e; have k0_i11:=e.1; (try simp only[e,Ins.eta,Prog.eta,aa,Mem.eta,Mach.eta,-eq_self]); clear e
 refine⟨fun c9=> ?_,fun c9=> ?_⟩
 have hs:aJ n=true:=c0
 have hn3:=aI hs
 have f0:inr 1048576 m.l0 at_ n=false:=c1
 have f1:inr 2097152 m.l1 at_ n=false:=c5
 have f2:inr 3145728 m.l2 at_ n=true:=c9
 have W:=Win.of f2 hat_ (by decide) hl2 (by omega) (by omega)
 refine⟨fun ds=>∃k:Nat,ds=[.z (numL ((winL 3145728 m.l2 at_ n).drop k)),.z ((k:Int)-1)]∧k≤n.toNat,fun ds=>(dI ds 1+1).toNat,⟨n.toNat,by rw[sub1 (by omega) (by omega),List.drop_eq_nil_of_le (by rw[W.len]; exact Nat.le_refl _),show((n.toNat:Nat):Int)-1=n-1 by omega]; rfl,Nat.le_refl _⟩,?_⟩
 intro ρ1 ha1 _ hi1
 obtain⟨k,hds,hk⟩:=hi1
 simp only[List.cons.injEq,Dt.z.injEq,Dt.l.injEq,b2i_eq_iff,and_true] at hds
 obtain⟨k1_i13,k1_i14⟩:=hds
 have k1_l2:=kL ha1 k0_l2
 have k1_i11:ρ1.i 11=at_-3145728:=(kI ha1 k0_i11).trans (kH f2 (by omega))
 simp only[k1_i13,k1_i14,k1_l2,k1_i11,-eq_self]
 refine⟨fun c10=> ?_,fun c10=> ?_⟩
 ·have hs:aJ n=true:=c0
  have hn3:=aI hs
  have f0:inr 1048576 m.l0 at_ n=false:=c1
  have f1:inr 2097152 m.l1 at_ n=false:=c5
  have f2:inr 3145728 m.l2 at_ n=true:=c9
  obtain rfl:k=0:=by have:=of_decide_eq_true c10; omega
  simp[rdV,rdE,Mem.reg,memB,hs,f0,f1,f2]
 refine⟨fun c11=> ?_,fun c11=> ?_⟩
 ·have w1:=W.lo; have w2:=W.hi; have w3:=W.len
  obtain⟨j,rfl⟩:∃j,k=j+1:=⟨k-1,by have:=of_decide_eq_false c10; omega⟩
  rw[show(((j+1:Nat):Int)-1)=(j:Int) by omega,(W.byte hl2 (by omega)).1] at c11
  exact absurd (of_decide_eq_true c11) (by omega)
 refine⟨fun c12=> ?_,fun c12=> ?_⟩
 ·obtain⟨j,rfl⟩:∃j,k=j+1:=⟨k-1,by have:=of_decide_eq_false c10; omega⟩
  exact W.next hl2 r2 hk
 ·have w1:=W.lo; have w2:=W.hi; have w3:=W.len
  obtain⟨j,rfl⟩:∃j,k=j+1:=⟨k-1,by have:=of_decide_eq_false c10; omega⟩
  rw[show(((j+1:Nat):Int)-1)=(j:Int) by omega,(W.byte hl2 (by omega)).1] at c12
  exact absurd (of_decide_eq_false c12) (by omega)
 refine⟨?_,?_⟩
 ·exact⟨by have:=aI c0; omega,hl3⟩
 intro e; have k0_i13:=e.1; (try simp only[e,Ins.eta,Prog.eta,aa,Mem.eta,Mach.eta,-eq_self]); clear e
 refine⟨fun c13=> ?_,fun c13=> ?_⟩
 have hs:aJ n=true:=c0
 have hn3:=aI hs
 have f0:inr 1048576 m.l0 at_ n=false:=c1
 have f1:inr 2097152 m.l1 at_ n=false:=c5
 have f2:inr 3145728 m.l2 at_ n=false:=c9
 have f3:inr 4194304 m.l3 at_ n=true:=c13
 have W:=Win.of f3 hat_ (by decide) hl3 (by omega) (by omega)
 refine⟨fun ds=>∃k:Nat,ds=[.z (numL ((winL 4194304 m.l3 at_ n).drop k)),.z ((k:Int)-1)]∧k≤n.toNat,fun ds=>(dI ds 1+1).toNat,⟨n.toNat,by rw[sub1 (by omega) (by omega),List.drop_eq_nil_of_le (by rw[W.len]; exact Nat.le_refl _),show((n.toNat:Nat):Int)-1=n-1 by omega]; rfl,Nat.le_refl _⟩,?_⟩
 intro ρ1 ha1 _ hi1
 obtain⟨k,hds,hk⟩:=hi1
 simp only[List.cons.injEq,Dt.z.injEq,Dt.l.injEq,b2i_eq_iff,and_true] at hds
 obtain⟨k1_i15,k1_i16⟩:=hds
 have k1_l3:=kL ha1 k0_l3
 have k1_i13:ρ1.i 13=at_-4194304:=(kI ha1 k0_i13).trans (kH f3 (by omega))
 simp only[k1_i15,k1_i16,k1_l3,k1_i13,-eq_self]
 refine⟨fun c14=> ?_,fun c14=> ?_⟩
 ·have hs:aJ n=true:=c0
  have hn3:=aI hs
  have f0:inr 1048576 m.l0 at_ n=false:=c1
  have f1:inr 2097152 m.l1 at_ n=false:=c5
  have f2:inr 3145728 m.l2 at_ n=false:=c9
  have f3:inr 4194304 m.l3 at_ n=true:=c13
  obtain rfl:k=0:=by have:=of_decide_eq_true c14; omega
  simp[rdV,rdE,Mem.reg,memB,hs,f0,f1,f2,f3]
 refine⟨fun c15=> ?_,fun c15=> ?_⟩
 ·have w1:=W.lo; have w2:=W.hi; have w3:=W.len
  obtain⟨j,rfl⟩:∃j,k=j+1:=⟨k-1,by have:=of_decide_eq_false c14; omega⟩
  rw[show(((j+1:Nat):Int)-1)=(j:Int) by omega,(W.byte hl3 (by omega)).1] at c15
  exact absurd (of_decide_eq_true c15) (by omega)
 refine⟨fun c16=> ?_,fun c16=> ?_⟩
 ·obtain⟨j,rfl⟩:∃j,k=j+1:=⟨k-1,by have:=of_decide_eq_false c14; omega⟩
  exact W.next hl3 r3 hk
 ·have w1:=W.lo; have w2:=W.hi; have w3:=W.len
  obtain⟨j,rfl⟩:∃j,k=j+1:=⟨k-1,by have:=of_decide_eq_false c14; omega⟩
  rw[show(((j+1:Nat):Int)-1)=(j:Int) by omega,(W.byte hl3 (by omega)).1] at c16
  exact absurd (of_decide_eq_false c16) (by omega)
 ·have hs:aJ n=true:=c0
  have hn3:=aI hs
  have f0:inr 1048576 m.l0 at_ n=false:=c1
  have f1:inr 2097152 m.l1 at_ n=false:=c5
  have f2:inr 3145728 m.l2 at_ n=false:=c9
  have f3:inr 4194304 m.l3 at_ n=false:=c13
  simp[rdV,rdE,Mem.reg,memB,hs,f0,f1,f2,f3]
 ·have hs:aJ n=false:=c0
  simp[rdV,rdE,hs]
theorem vM {sp:Spec} {key:Nat} (hF:sp.F key=dR) (hP:sp.pre key=cU):SmOk Try.prog sp (jA key):=
 aS (s:=jA key) hF hP (by kernel_rfl) bR (smc (zx rfl) (smc (qN rfl rfl) sm0)) Try.func46 (fnc Try.func70 fn0) vo (.inr (.inl ⟨(fun xs h L hL=>by unfold cU at h; split at h<;>first | exact h.elim | (simp at hL; rcases hL with rfl | rfl | rfl | rfl; exact Nat.le_trans (Nat.le_of_eq (congrArg List.length h.1)) (by decide); exact Nat.le_trans h.2.1 (by decide); exact Nat.le_trans (Nat.le_of_eq h.2.2.1) (by decide); exact Nat.le_trans (Nat.le_of_eq (congrArg List.length h.2.2.2)) (by decide))),rfl⟩)) (fun x0 gx0 x1 gx1 x2 gx2 x3 gx3 x4 gx4 x5 gx5 hp ρ g=>vb ⟨x0,x1,x2,x3⟩ ⟨gx0,gx1,gx2,gx3⟩ x4 gx4 x5 gx5 hp ρ g)
def jz (key:Nat):Sm:=⟨42,key,[.agg kIns],[.one (.int .i64)],false⟩
def jo (x:Ins):List Dt:=[.z (ai x)]
def dQ:List Dt→List Dt
 | [.z x0,.z x1,.z x2,.z x3,.z x4,.z x5,.z x6,.z x7,.z x8]=>jo ⟨x0,x1,x2,x3,(x4==1),x5,x6,x7,x8⟩
 | _=>[]
def sT_jreads:Tr:=
(.br (.eq (.var 0) (.lit 0))
(.br (.eq (.var 1) (.lit 11))
(.br (.bvar 4)
(.br (.lt (.var 6) (.lit 0))
.panic
(.leaf (.cons (.bin .or .i64 (.lit 0) (.bin .shl .i64 (.lit 1) (.var 6))) .nil)))
(.leaf (.cons (.lit 0) .nil)))
(.br (.lt (.var 5) (.lit 0))
.panic
(.br (.bvar 4)
(.br (.lt (.var 6) (.lit 0))
.panic
(.leaf (.cons (.bin .or .i64 (.bin .shl .i64 (.lit 1) (.var 5)) (.bin .shl .i64 (.lit 1) (.var 6))) .nil)))
(.leaf (.cons (.bin .shl .i64 (.lit 1) (.var 5)) .nil)))))
(.br (.eq (.var 0) (.lit 1))
(.br (.lt (.var 6) (.lit 0))
.panic
(.leaf (.cons (.bin .shl .i64 (.lit 1) (.var 6)) .nil)))
(.br (.eq (.var 0) (.lit 2))
(.br (.lt (.var 5) (.lit 0))
.panic
(.br (.lt (.var 6) (.lit 0))
.panic
(.leaf (.cons (.bin .or .i64 (.bin .shl .i64 (.lit 1) (.var 5)) (.bin .shl .i64 (.lit 1) (.var 6))) .nil))))
(.br (.eq (.var 0) (.lit 3))
(.br (.lt (.var 5) (.lit 0))
.panic
(.br (.bvar 4)
(.br (.lt (.var 6) (.lit 0))
.panic
(.leaf (.cons (.bin .or .i64 (.bin .shl .i64 (.lit 1) (.var 5)) (.bin .shl .i64 (.lit 1) (.var 6))) .nil)))
(.leaf (.cons (.bin .shl .i64 (.lit 1) (.var 5)) .nil))))
(.br (.eq (.var 0) (.lit 5))
(.loop 0 9 [.int .i64,.int .i64] (.cons (.lit 1) (.cons (.lit 0) .nil))
(.call 0 [.int .i64] (.cons (.var 8) .nil) 11
(.br (.lt (.var 11) (.var 9))
(.leaf (.cons (.var 10) .nil))
(.br (.lt (.var 9) (.lit 0))
.panic
(.next 0 (.cons (.bin .add .i64 (.var 9) (.lit 1)) (.cons (.bin .or .i64 (.var 10) (.bin .shl .i64 (.lit 1) (.var 9))) .nil)))))))
(.br (.eq (.var 0) (.lit 6))
(.leaf (.cons (.lit 1) .nil))
(.leaf (.cons (.lit 0) .nil))))))))
def nK:Spec:=⟨fun k=>match k with | 0=>dk | _=>fun _=>[],fun k=>match k with | _=>fun _=>True⟩
set_option maxRecDepth 100000 in
theorem vn:aM tys_MrB [iS 0] [] [(18,[.tmpI 4 .i64,.tmpI 3 .i64,.top 50,.top 51,.top 52,.top 53,.top 54,.top 57,.top 58,.top 59,.top 60,.top 55,.top 56])] [] 200 Try.f42 [.agg kIns] [.one (.int .i64)] false [.int .i8,.int .i8,.int .i8,.int .i8,.bool,.int .i8,.int .i8,.int .i64,.int .i64] sT_jreads:=⟨by kernel_rfl,by kernel_rfl,by kernel_rfl⟩
def dN:List Dt→Prop
 | [.z x0,.z x1,.z x2,.z x3,.z x4,.z x5,.z x6,.z x7,.z x8]=>let f (x:Ins):Prop:=imay x=true; f ⟨x0,x1,x2,x3,(x4==1),x5,x6,x7,x8⟩
 | _=>False
set_option maxRecDepth 100000 in
set_option maxHeartbeats 8000000 in
theorem uZ (x:Ins) (hx:Ins.ok x) (hp:dN [.z x.k,.z x.op,.z x.w,.z x.sz,.z (b2i x.br),.z x.d,.z x.s,.z x.off,.z x.imm]) (ρ:Env) (g:ah ρ 0 [.int .i8,.int .i8,.int .i8,.int .i8,.bool,.int .i8,.int .i8,.int .i64,.int .i64]=[.z x.k,.z x.op,.z x.w,.z x.sz,.z (b2i x.br),.z x.d,.z x.s,.z x.off,.z x.imm]):sT_jreads.asks nK (fun ρ e=>e.D ρ=dQ [.z x.k,.z x.op,.z x.w,.z x.sz,.z (b2i x.br),.z x.d,.z x.s,.z x.off,.z x.imm]) ρ fun _ _=>False:=by
 simp only[dN,b2i_one,Ins.eta,Prog.eta,aa,Mem.eta,Mach.eta] at hp
 have keepg:=g
 simp only[ah,varD,List.cons.injEq,Dt.z.injEq,Dt.l.injEq,b2i_eq_iff,Nat.reduceAdd,and_true] at g
 simp only[sT_jreads,nK,dk,iO,dQ,jo,Tr.asks,am,okDs,okD,eqs,E.I,E.B,E.L,E.R,E.D,E.vs,dI,dB,dL,varD,ah,List.getElem?_cons_zero,List.getElem?_cons_succ,List.cons_append,List.nil_append,Nat.zero_add,Nat.add_zero,Nat.reduceAdd,and_true,true_and,b2i_one,-eq_self,Ins.eta,Prog.eta,aa,Mem.eta,Mach.eta,g]
 refine⟨fun c0=> ?_,fun c0=> ?_⟩
 refine⟨fun c1=> ?_,fun c1=> ?_⟩
 refine⟨fun c2=> ?_,fun c2=> ?_⟩
 refine⟨fun c3=> ?_,fun c3=> ?_⟩
 ·(have q:=aZ hp; simp at *; omega)
 ·(unfold ai bit1; simp_all)
 ·(unfold ai bit1; simp_all)
 refine⟨fun c4=> ?_,fun c4=> ?_⟩
 ·(have q:=aZ hp; simp at *; omega)
 refine⟨fun c5=> ?_,fun c5=> ?_⟩
 refine⟨fun c6=> ?_,fun c6=> ?_⟩
 ·(have q:=aZ hp; simp at *; omega)
 ·(unfold ai bit1; simp_all)
 ·(unfold ai bit1; simp_all)
 refine⟨fun c7=> ?_,fun c7=> ?_⟩
 refine⟨fun c8=> ?_,fun c8=> ?_⟩
 ·(have q:=aZ hp; simp at *; omega)
 ·(unfold ai bit1; simp_all)
 refine⟨fun c9=> ?_,fun c9=> ?_⟩
 refine⟨fun c10=> ?_,fun c10=> ?_⟩
 ·(have q:=aZ hp; simp at *; omega)
 refine⟨fun c11=> ?_,fun c11=> ?_⟩
 ·(have q:=aZ hp; simp at *; omega)
 ·(unfold ai bit1; simp_all)
 refine⟨fun c12=> ?_,fun c12=> ?_⟩
 refine⟨fun c13=> ?_,fun c13=> ?_⟩
 ·(have q:=aZ hp; simp at *; omega)
 refine⟨fun c14=> ?_,fun c14=> ?_⟩
 refine⟨fun c15=> ?_,fun c15=> ?_⟩
 ·(have q:=aZ hp; simp at *; omega)
 ·(unfold ai bit1; simp_all)
 ·(unfold ai bit1; simp_all)
 refine⟨fun c16=> ?_,fun c16=> ?_⟩
 have hA:=aE x.imm
 refine⟨fun ds=>∃k:Nat,ds=[.z (k:Int),.z ((2 ^ k-2:Nat):Int)]∧1≤k∧(k:Int)≤bo x.imm+1,fun ds=>7-(dI ds 0).toNat,⟨1,rfl,by omega,by omega⟩,?_⟩
 intro ρ1 ha1 _ hi1
 obtain⟨k,hds,h1,h2⟩:=hi1
 simp only[List.cons.injEq,Dt.z.injEq,Dt.l.injEq,b2i_eq_iff,and_true] at hds
 obtain⟨k1_i9,k1_i10⟩:=hds
 have k1_i8:ρ1.i 8=x.imm:=(ha1 8 (by decide)).1.symm.trans (by simp only[g])
 simp only[k1_i8,k1_i9,k1_i10,-eq_self]
 intro e; (try simp only[e,Ins.eta,Prog.eta,aa,Mem.eta,Mach.eta,-eq_self]); clear e
 refine⟨fun c17=> ?_,fun c17=> ?_⟩
 ·have q:=of_decide_eq_true c17
  have hk:k=1∨k=2∨k=3∨k=4∨k=5∨k=6:=by omega
  have hk2:bo x.imm=(k:Int)-1:=by omega
  have h5:=eqI c16
  unfold ai
  rw[hk2]
  simp only[h5]
  rcases hk with rfl | rfl | rfl | rfl | rfl | rfl<;>rfl
 refine⟨fun c18=> ?_,fun c18=> ?_⟩
 ·exact absurd (of_decide_eq_true c18) (by omega)
 ·have q:=of_decide_eq_false c17
  have hk:k=1∨k=2∨k=3∨k=4∨k=5:=by omega
  rcases hk with rfl | rfl | rfl | rfl | rfl
  ·exact⟨⟨2,rfl,by omega,by omega⟩,by decide⟩
  ·exact⟨⟨3,rfl,by omega,by omega⟩,by decide⟩
  ·exact⟨⟨4,rfl,by omega,by omega⟩,by decide⟩
  ·exact⟨⟨5,rfl,by omega,by omega⟩,by decide⟩
  ·exact⟨⟨6,rfl,by omega,by omega⟩,by decide⟩
 refine⟨fun c19=> ?_,fun c19=> ?_⟩
 ·(unfold ai bit1; simp_all)
 ·(unfold ai bit1; simp_all)
theorem vL {sp:Spec} {key:Nat} (hF:sp.F key=dQ) (hP:sp.pre key=dN):SmOk Try.prog sp (jz key):=
 aS (s:=jz key) hF hP (by kernel_rfl) bR (smc (qP rfl) sm0) Try.func42 fn0 vn (.inl rfl) (fun x0 gx0 x1 gx1 x2 gx2 x3 gx3 x4 x5 gx5 x6 gx6 x7 gx7 x8 gx8 hp ρ g=>uZ ⟨x0,x1,x2,x3,x4,x5,x6,x7,x8⟩ ⟨gx0,gx1,gx2,gx3,gx5,gx6,gx7,gx8⟩ hp ρ g)
def pm (key:Nat):Sm:=⟨44,key,[.ptr kJMd,.agg kIns],[.one (.int .u64)],false⟩
def pg (m:JMd) (x:Ins):List Dt:=[.z (jsec m x)]
def jG:List Dt→List Dt
 | [.z x0,.z x1,.z x2,.z x3,.z x4,.z x5,.z x6,.z x7,.z x8,.z x9,.z x10,.z x11,.z x12,.z x13,.z x14,.z x15,.z x16,.z x17,.z x18,.z x19]=>pg ⟨x0,x1,x2,x3,x4,x5,x6,x7,x8,x9,x10⟩ ⟨x11,x12,x13,x14,(x15==1),x16,x17,x18,x19⟩
 | _=>[]
def sT_jsec:Tr:=
(.br (.bvar 15)
(.br (.eq (.var 17) (.lit 0))
(.leaf (.cons (.var 0) .nil))
(.br (.eq (.var 17) (.lit 1))
(.leaf (.cons (.var 1) .nil))
(.br (.eq (.var 17) (.lit 2))
(.leaf (.cons (.var 2) .nil))
(.br (.eq (.var 17) (.lit 3))
(.leaf (.cons (.var 3) .nil))
(.br (.eq (.var 17) (.lit 4))
(.leaf (.cons (.var 4) .nil))
(.br (.eq (.var 17) (.lit 5))
(.leaf (.cons (.var 5) .nil))
(.br (.eq (.var 17) (.lit 6))
(.leaf (.cons (.var 6) .nil))
(.br (.eq (.var 17) (.lit 7))
(.leaf (.cons (.var 7) .nil))
(.br (.eq (.var 17) (.lit 8))
(.leaf (.cons (.var 8) .nil))
(.br (.eq (.var 17) (.lit 9))
(.leaf (.cons (.var 9) .nil))
(.br (.eq (.var 17) (.lit 10))
(.leaf (.cons (.var 10) .nil))
.panic)))))))))))
(.leaf (.cons (.conv .u64 (.var 19)) .nil)))
def vz:Spec:=⟨fun k=>match k with | _=>fun _=>[],fun k=>match k with | _=>fun _=>True⟩
set_option maxRecDepth 100000 in
theorem aaI:aM tys_MrB [] [] [] [] 200 Try.f44 [.ptr kJMd,.agg kIns] [.one (.int .u64)] false [.int .u64,.int .u64,.int .u64,.int .u64,.int .u64,.int .u64,.int .u64,.int .u64,.int .u64,.int .u64,.int .u64,.int .i8,.int .i8,.int .i8,.int .i8,.bool,.int .i8,.int .i8,.int .i64,.int .i64] sT_jsec:=⟨by kernel_rfl,by kernel_rfl,by kernel_rfl⟩
def ju:List Dt→Prop
 | [.z x0,.z x1,.z x2,.z x3,.z x4,.z x5,.z x6,.z x7,.z x8,.z x9,.z x10,.z x11,.z x12,.z x13,.z x14,.z x15,.z x16,.z x17,.z x18,.z x19]=>let f (m:JMd) (x:Ins):Prop:=x.br=true→0≤x.s∧x.s≤10; f ⟨x0,x1,x2,x3,x4,x5,x6,x7,x8,x9,x10⟩ ⟨x11,x12,x13,x14,(x15==1),x16,x17,x18,x19⟩
 | _=>False
set_option maxRecDepth 100000 in
set_option maxHeartbeats 8000000 in
theorem aax (m:JMd) (hm:JMd.ok m) (x:Ins) (hx:Ins.ok x) (hp:ju [.z m.r0,.z m.r1,.z m.r2,.z m.r3,.z m.r4,.z m.r5,.z m.r6,.z m.r7,.z m.r8,.z m.r9,.z m.r10,.z x.k,.z x.op,.z x.w,.z x.sz,.z (b2i x.br),.z x.d,.z x.s,.z x.off,.z x.imm]) (ρ:Env) (g:ah ρ 0 [.int .u64,.int .u64,.int .u64,.int .u64,.int .u64,.int .u64,.int .u64,.int .u64,.int .u64,.int .u64,.int .u64,.int .i8,.int .i8,.int .i8,.int .i8,.bool,.int .i8,.int .i8,.int .i64,.int .i64]=[.z m.r0,.z m.r1,.z m.r2,.z m.r3,.z m.r4,.z m.r5,.z m.r6,.z m.r7,.z m.r8,.z m.r9,.z m.r10,.z x.k,.z x.op,.z x.w,.z x.sz,.z (b2i x.br),.z x.d,.z x.s,.z x.off,.z x.imm]):sT_jsec.asks vz (fun ρ e=>e.D ρ=jG [.z m.r0,.z m.r1,.z m.r2,.z m.r3,.z m.r4,.z m.r5,.z m.r6,.z m.r7,.z m.r8,.z m.r9,.z m.r10,.z x.k,.z x.op,.z x.w,.z x.sz,.z (b2i x.br),.z x.d,.z x.s,.z x.off,.z x.imm]) ρ fun _ _=>False:=by
 simp only[ju,b2i_one,Ins.eta,Prog.eta,aa,Mem.eta,Mach.eta] at hp
 simp only[ah,varD,List.cons.injEq,Dt.z.injEq,Dt.l.injEq,b2i_eq_iff,Nat.reduceAdd,and_true] at g
 simp only[sT_jsec,vz,jG,pg,Tr.asks,am,okDs,okD,eqs,E.I,E.B,E.L,E.R,E.D,E.vs,dI,dB,dL,varD,ah,List.getElem?_cons_zero,List.getElem?_cons_succ,List.cons_append,List.nil_append,Nat.zero_add,Nat.add_zero,Nat.reduceAdd,and_true,true_and,b2i_one,-eq_self,Ins.eta,Prog.eta,aa,Mem.eta,Mach.eta,g]
 refine⟨fun c0=> ?_,fun c0=> ?_⟩
 refine⟨fun c1=> ?_,fun c1=> ?_⟩
 ·(unfold jsec; rw[c0,eqI c1]; rfl)
 refine⟨fun c2=> ?_,fun c2=> ?_⟩
 ·(unfold jsec; rw[c0,eqI c2]; rfl)
 refine⟨fun c3=> ?_,fun c3=> ?_⟩
 ·(unfold jsec; rw[c0,eqI c3]; rfl)
 refine⟨fun c4=> ?_,fun c4=> ?_⟩
 ·(unfold jsec; rw[c0,eqI c4]; rfl)
 refine⟨fun c5=> ?_,fun c5=> ?_⟩
 ·(unfold jsec; rw[c0,eqI c5]; rfl)
 refine⟨fun c6=> ?_,fun c6=> ?_⟩
 ·(unfold jsec; rw[c0,eqI c6]; rfl)
 refine⟨fun c7=> ?_,fun c7=> ?_⟩
 ·(unfold jsec; rw[c0,eqI c7]; rfl)
 refine⟨fun c8=> ?_,fun c8=> ?_⟩
 ·(unfold jsec; rw[c0,eqI c8]; rfl)
 refine⟨fun c9=> ?_,fun c9=> ?_⟩
 ·(unfold jsec; rw[c0,eqI c9]; rfl)
 refine⟨fun c10=> ?_,fun c10=> ?_⟩
 ·(unfold jsec; rw[c0,eqI c10]; rfl)
 refine⟨fun c11=> ?_,fun c11=> ?_⟩
 ·(unfold jsec; rw[c0,eqI c11]; rfl)
 ·(have q:=hp c0; have n0:=neI c1; have n1:=neI c2; have n2:=neI c3; have n3:=neI c4; have n4:=neI c5; have n5:=neI c6; have n6:=neI c7; have n7:=neI c8; have n8:=neI c9; have n9:=neI c10; have n10:=neI c11; omega)
 ·(unfold jsec; rw[c0]; rfl)
theorem aaP {sp:Spec} {key:Nat} (hF:sp.F key=jG) (hP:sp.pre key=ju):SmOk Try.prog sp (pm key):=
 aS (s:=pm key) hF hP (by kernel_rfl) bR (sm0) Try.func44 fn0 aaI (.inl rfl) (fun x0 gx0 x1 gx1 x2 gx2 x3 gx3 x4 gx4 x5 gx5 x6 gx6 x7 gx7 x8 gx8 x9 gx9 x10 gx10 x11 gx11 x12 gx12 x13 gx13 x14 gx14 x15 x16 gx16 x17 gx17 x18 gx18 x19 gx19 hp ρ g=>aax ⟨x0,x1,x2,x3,x4,x5,x6,x7,x8,x9,x10⟩ ⟨gx0,gx1,gx2,gx3,gx4,gx5,gx6,gx7,gx8,gx9,gx10⟩ ⟨x11,x12,x13,x14,x15,x16,x17,x18,x19⟩ ⟨gx11,gx12,gx13,gx14,gx16,gx17,gx18,gx19⟩ hp ρ g)
def iR (key:Nat):Sm:=⟨51,key,[.one (.sl [some .u8] 5)],[.one (.sl [some .u8] 5)],false⟩
def iN (b:List (List Int)):List Dt:=[.l b]
def dj:List Dt→List Dt
 | [.l x0]=>iN x0
 | _=>[]
def sT_jsame:Tr:=
(.br (.lt (.len (.lvar 0)) (.lit 1073741824))
(.leaf (.consl (.lvar 0) .nil))
.panic)
def qG:Spec:=⟨fun k=>match k with | _=>fun _=>[],fun k=>match k with | _=>fun _=>True⟩
set_option maxRecDepth 100000 in
theorem ym:aM tys_MrB [] [] [] [] 200 Try.f51 [.one (.sl [some .u8] 5)] [.one (.sl [some .u8] 5)] false [.list [some .u8]] sT_jsame:=⟨by kernel_rfl,by kernel_rfl,by kernel_rfl⟩
def cJ:List Dt→Prop
 | [.l x0]=>let f (b:List (List Int)):Prop:=b.length≤1048576; f x0
 | _=>False
set_option maxRecDepth 100000 in
set_option maxHeartbeats 8000000 in
theorem ye (b:List (List Int)) (hb:RowsIn [some .u8] b) (hp:cJ [.l b]) (ρ:Env) (g:ah ρ 0 [.list [some .u8]]=[.l b]):sT_jsame.asks qG (fun ρ e=>e.D ρ=dj [.l b]) ρ fun _ _=>False:=by
 simp only[cJ,b2i_one,Ins.eta,Prog.eta,aa,Mem.eta,Mach.eta] at hp
 simp only[ah,varD,List.cons.injEq,Dt.z.injEq,Dt.l.injEq,b2i_eq_iff,Nat.reduceAdd,and_true] at g
 simp only[sT_jsame,qG,dj,iN,Tr.asks,am,okDs,okD,eqs,E.I,E.B,E.L,E.R,E.D,E.vs,dI,dB,dL,varD,ah,List.getElem?_cons_zero,List.getElem?_cons_succ,List.cons_append,List.nil_append,Nat.zero_add,Nat.add_zero,Nat.reduceAdd,and_true,true_and,b2i_one,-eq_self,Ins.eta,Prog.eta,aa,Mem.eta,Mach.eta,g]
 refine⟨fun c0=> ?_,fun c0=> ?_⟩
 ·rfl
 ·(have q:=of_decide_eq_false c0; omega)
theorem qO {sp:Spec} {key:Nat} (hF:sp.F key=dj) (hP:sp.pre key=cJ):SmOk Try.prog sp (iR key):=
 aS (s:=iR key) hF hP (by kernel_rfl) bR (sm0) Try.func51 fn0 ym (.inr (.inl ⟨(fun xs h L hL=>by unfold cJ at h; split at h<;>first | exact h.elim | (simp at hL; rcases hL with rfl; exact Nat.le_trans h (by decide))),rfl⟩)) (fun x0 gx0 hp ρ g=>ye x0 gx0 hp ρ g)
def jB (key:Nat):Sm:=⟨48,key,[.ptr td],[.agg kF64],false⟩
def jq (m:JMem):List Dt:=[.z ((f64 m.l2).f0),.z ((f64 m.l2).f1),.z ((f64 m.l2).f2),.z ((f64 m.l2).f3),.z ((f64 m.l2).f4),.z ((f64 m.l2).f5),.z ((f64 m.l2).f6),.z ((f64 m.l2).f7),.z ((f64 m.l2).f8),.z ((f64 m.l2).f9),.z ((f64 m.l2).f10),.z ((f64 m.l2).f11),.z ((f64 m.l2).f12),.z ((f64 m.l2).f13),.z ((f64 m.l2).f14),.z ((f64 m.l2).f15),.z ((f64 m.l2).f16),.z ((f64 m.l2).f17),.z ((f64 m.l2).f18),.z ((f64 m.l2).f19),.z ((f64 m.l2).f20),.z ((f64 m.l2).f21),.z ((f64 m.l2).f22),.z ((f64 m.l2).f23),.z ((f64 m.l2).f24),.z ((f64 m.l2).f25),.z ((f64 m.l2).f26),.z ((f64 m.l2).f27),.z ((f64 m.l2).f28),.z ((f64 m.l2).f29),.z ((f64 m.l2).f30),.z ((f64 m.l2).f31),.z ((f64 m.l2).f32),.z ((f64 m.l2).f33),.z ((f64 m.l2).f34),.z ((f64 m.l2).f35),.z ((f64 m.l2).f36),.z ((f64 m.l2).f37),.z ((f64 m.l2).f38),.z ((f64 m.l2).f39),.z ((f64 m.l2).f40),.z ((f64 m.l2).f41),.z ((f64 m.l2).f42),.z ((f64 m.l2).f43),.z ((f64 m.l2).f44),.z ((f64 m.l2).f45),.z ((f64 m.l2).f46),.z ((f64 m.l2).f47),.z ((f64 m.l2).f48),.z ((f64 m.l2).f49),.z ((f64 m.l2).f50),.z ((f64 m.l2).f51),.z ((f64 m.l2).f52),.z ((f64 m.l2).f53),.z ((f64 m.l2).f54),.z ((f64 m.l2).f55),.z ((f64 m.l2).f56),.z ((f64 m.l2).f57),.z ((f64 m.l2).f58),.z ((f64 m.l2).f59),.z ((f64 m.l2).f60),.z ((f64 m.l2).f61),.z ((f64 m.l2).f62),.z ((f64 m.l2).f63)]
def dS:List Dt→List Dt
 | [.l x0,.l x1,.l x2,.l x3]=>jq ⟨x0,x1,x2,x3⟩
 | _=>[]
set_option maxRecDepth 100000 in
def sT_jframe:Tr:=
(.br (.lt (.lit 0) (.len (.lvar 2)))
(.br (.lt (.lit 1) (.len (.lvar 2)))
(.br (.lt (.lit 2) (.len (.lvar 2)))
(.br (.lt (.lit 3) (.len (.lvar 2)))
(.br (.lt (.lit 4) (.len (.lvar 2)))
(.br (.lt (.lit 5) (.len (.lvar 2)))
(.br (.lt (.lit 6) (.len (.lvar 2)))
(.br (.lt (.lit 7) (.len (.lvar 2)))
(.br (.lt (.lit 8) (.len (.lvar 2)))
(.br (.lt (.lit 9) (.len (.lvar 2)))
(.br (.lt (.lit 10) (.len (.lvar 2)))
(.br (.lt (.lit 11) (.len (.lvar 2)))
(.br (.lt (.lit 12) (.len (.lvar 2)))
(.br (.lt (.lit 13) (.len (.lvar 2)))
(.br (.lt (.lit 14) (.len (.lvar 2)))
(.br (.lt (.lit 15) (.len (.lvar 2)))
(.br (.lt (.lit 16) (.len (.lvar 2)))
(.br (.lt (.lit 17) (.len (.lvar 2)))
(.br (.lt (.lit 18) (.len (.lvar 2)))
(.br (.lt (.lit 19) (.len (.lvar 2)))
(.br (.lt (.lit 20) (.len (.lvar 2)))
(.br (.lt (.lit 21) (.len (.lvar 2)))
(.br (.lt (.lit 22) (.len (.lvar 2)))
(.br (.lt (.lit 23) (.len (.lvar 2)))
(.br (.lt (.lit 24) (.len (.lvar 2)))
(.br (.lt (.lit 25) (.len (.lvar 2)))
(.br (.lt (.lit 26) (.len (.lvar 2)))
(.br (.lt (.lit 27) (.len (.lvar 2)))
(.br (.lt (.lit 28) (.len (.lvar 2)))
(.br (.lt (.lit 29) (.len (.lvar 2)))
(.br (.lt (.lit 30) (.len (.lvar 2)))
(.br (.lt (.lit 31) (.len (.lvar 2)))
(.br (.lt (.lit 32) (.len (.lvar 2)))
(.br (.lt (.lit 33) (.len (.lvar 2)))
(.br (.lt (.lit 34) (.len (.lvar 2)))
(.br (.lt (.lit 35) (.len (.lvar 2)))
(.br (.lt (.lit 36) (.len (.lvar 2)))
(.br (.lt (.lit 37) (.len (.lvar 2)))
(.br (.lt (.lit 38) (.len (.lvar 2)))
(.br (.lt (.lit 39) (.len (.lvar 2)))
(.br (.lt (.lit 40) (.len (.lvar 2)))
(.br (.lt (.lit 41) (.len (.lvar 2)))
(.br (.lt (.lit 42) (.len (.lvar 2)))
(.br (.lt (.lit 43) (.len (.lvar 2)))
(.br (.lt (.lit 44) (.len (.lvar 2)))
(.br (.lt (.lit 45) (.len (.lvar 2)))
(.br (.lt (.lit 46) (.len (.lvar 2)))
(.br (.lt (.lit 47) (.len (.lvar 2)))
(.br (.lt (.lit 48) (.len (.lvar 2)))
(.br (.lt (.lit 49) (.len (.lvar 2)))
(.br (.lt (.lit 50) (.len (.lvar 2)))
(.br (.lt (.lit 51) (.len (.lvar 2)))
(.br (.lt (.lit 52) (.len (.lvar 2)))
(.br (.lt (.lit 53) (.len (.lvar 2)))
(.br (.lt (.lit 54) (.len (.lvar 2)))
(.br (.lt (.lit 55) (.len (.lvar 2)))
(.br (.lt (.lit 56) (.len (.lvar 2)))
(.br (.lt (.lit 57) (.len (.lvar 2)))
(.br (.lt (.lit 58) (.len (.lvar 2)))
(.br (.lt (.lit 59) (.len (.lvar 2)))
(.br (.lt (.lit 60) (.len (.lvar 2)))
(.br (.lt (.lit 61) (.len (.lvar 2)))
(.br (.lt (.lit 62) (.len (.lvar 2)))
(.br (.lt (.lit 63) (.len (.lvar 2)))
(.leaf (.cons (.get (.lvar 2) (.lit 0) 0) (.cons (.get (.lvar 2) (.lit 1) 0) (.cons (.get (.lvar 2) (.lit 2) 0) (.cons (.get (.lvar 2) (.lit 3) 0) (.cons (.get (.lvar 2) (.lit 4) 0) (.cons (.get (.lvar 2) (.lit 5) 0) (.cons (.get (.lvar 2) (.lit 6) 0) (.cons (.get (.lvar 2) (.lit 7) 0) (.cons (.get (.lvar 2) (.lit 8) 0) (.cons (.get (.lvar 2) (.lit 9) 0) (.cons (.get (.lvar 2) (.lit 10) 0) (.cons (.get (.lvar 2) (.lit 11) 0) (.cons (.get (.lvar 2) (.lit 12) 0) (.cons (.get (.lvar 2) (.lit 13) 0) (.cons (.get (.lvar 2) (.lit 14) 0) (.cons (.get (.lvar 2) (.lit 15) 0) (.cons (.get (.lvar 2) (.lit 16) 0) (.cons (.get (.lvar 2) (.lit 17) 0) (.cons (.get (.lvar 2) (.lit 18) 0) (.cons (.get (.lvar 2) (.lit 19) 0) (.cons (.get (.lvar 2) (.lit 20) 0) (.cons (.get (.lvar 2) (.lit 21) 0) (.cons (.get (.lvar 2) (.lit 22) 0) (.cons (.get (.lvar 2) (.lit 23) 0) (.cons (.get (.lvar 2) (.lit 24) 0) (.cons (.get (.lvar 2) (.lit 25) 0) (.cons (.get (.lvar 2) (.lit 26) 0) (.cons (.get (.lvar 2) (.lit 27) 0) (.cons (.get (.lvar 2) (.lit 28) 0) (.cons (.get (.lvar 2) (.lit 29) 0) (.cons (.get (.lvar 2) (.lit 30) 0) (.cons (.get (.lvar 2) (.lit 31) 0) (.cons (.get (.lvar 2) (.lit 32) 0) (.cons (.get (.lvar 2) (.lit 33) 0) (.cons (.get (.lvar 2) (.lit 34) 0) (.cons (.get (.lvar 2) (.lit 35) 0) (.cons (.get (.lvar 2) (.lit 36) 0) (.cons (.get (.lvar 2) (.lit 37) 0) (.cons (.get (.lvar 2) (.lit 38) 0) (.cons (.get (.lvar 2) (.lit 39) 0) (.cons (.get (.lvar 2) (.lit 40) 0) (.cons (.get (.lvar 2) (.lit 41) 0) (.cons (.get (.lvar 2) (.lit 42) 0) (.cons (.get (.lvar 2) (.lit 43) 0) (.cons (.get (.lvar 2) (.lit 44) 0) (.cons (.get (.lvar 2) (.lit 45) 0) (.cons (.get (.lvar 2) (.lit 46) 0) (.cons (.get (.lvar 2) (.lit 47) 0) (.cons (.get (.lvar 2) (.lit 48) 0) (.cons (.get (.lvar 2) (.lit 49) 0) (.cons (.get (.lvar 2) (.lit 50) 0) (.cons (.get (.lvar 2) (.lit 51) 0) (.cons (.get (.lvar 2) (.lit 52) 0) (.cons (.get (.lvar 2) (.lit 53) 0) (.cons (.get (.lvar 2) (.lit 54) 0) (.cons (.get (.lvar 2) (.lit 55) 0) (.cons (.get (.lvar 2) (.lit 56) 0) (.cons (.get (.lvar 2) (.lit 57) 0) (.cons (.get (.lvar 2) (.lit 58) 0) (.cons (.get (.lvar 2) (.lit 59) 0) (.cons (.get (.lvar 2) (.lit 60) 0) (.cons (.get (.lvar 2) (.lit 61) 0) (.cons (.get (.lvar 2) (.lit 62) 0) (.cons (.get (.lvar 2) (.lit 63) 0) .nil)))))))))))))))))))))))))))))))))))))))))))))))))))))))))))))))))
.panic)
.panic)
.panic)
.panic)
.panic)
.panic)
.panic)
.panic)
.panic)
.panic)
.panic)
.panic)
.panic)
.panic)
.panic)
.panic)
.panic)
.panic)
.panic)
.panic)
.panic)
.panic)
.panic)
.panic)
.panic)
.panic)
.panic)
.panic)
.panic)
.panic)
.panic)
.panic)
.panic)
.panic)
.panic)
.panic)
.panic)
.panic)
.panic)
.panic)
.panic)
.panic)
.panic)
.panic)
.panic)
.panic)
.panic)
.panic)
.panic)
.panic)
.panic)
.panic)
.panic)
.panic)
.panic)
.panic)
.panic)
.panic)
.panic)
.panic)
.panic)
.panic)
.panic)
.panic)
def nM:Spec:=⟨fun k=>match k with | _=>fun _=>[],fun k=>match k with | _=>fun _=>True⟩
set_option maxRecDepth 100000 in
theorem vp:aM tys_MrB [] [] [] [] 200 Try.f48 [.ptr td] [.agg kF64] false [.list [some .u8],.list [some .u8],.list [some .u8],.list [some .u8]] sT_jframe:=⟨by kernel_rfl,by kernel_rfl,by kernel_rfl⟩
def cV:List Dt→Prop
 | [.l x0,.l x1,.l x2,.l x3]=>let f (m:JMem):Prop:=m.l0=[]∧m.l1.length≤256∧m.l2.length=64∧m.l3=[]; f ⟨x0,x1,x2,x3⟩
 | _=>False
set_option maxRecDepth 100000 in
set_option maxHeartbeats 8000000 in
theorem vd (m:JMem) (hm:JMem.ok m) (hp:cV [.l m.l0,.l m.l1,.l m.l2,.l m.l3]) (ρ:Env) (g:ah ρ 0 [.list [some .u8],.list [some .u8],.list [some .u8],.list [some .u8]]=[.l m.l0,.l m.l1,.l m.l2,.l m.l3]):sT_jframe.asks nM (fun ρ e=>e.D ρ=dS [.l m.l0,.l m.l1,.l m.l2,.l m.l3]) ρ fun _ _=>False:=by
 simp only[cV,b2i_one,Ins.eta,Prog.eta,aa,Mem.eta,Mach.eta] at hp
 simp only[ah,varD,List.cons.injEq,Dt.z.injEq,Dt.l.injEq,b2i_eq_iff,Nat.reduceAdd,and_true] at g
 simp only[sT_jframe,nM,dS,jq,Tr.asks,am,okDs,okD,eqs,E.I,E.B,E.L,E.R,E.D,E.vs,dI,dB,dL,varD,ah,List.getElem?_cons_zero,List.getElem?_cons_succ,List.cons_append,List.nil_append,Nat.zero_add,Nat.add_zero,Nat.reduceAdd,and_true,true_and,b2i_one,-eq_self,Ins.eta,Prog.eta,aa,Mem.eta,Mach.eta,g]
 refine⟨fun c0=> ?_,fun c0=> ?_⟩
 refine⟨fun c1=> ?_,fun c1=> ?_⟩
 refine⟨fun c2=> ?_,fun c2=> ?_⟩
 refine⟨fun c3=> ?_,fun c3=> ?_⟩
 refine⟨fun c4=> ?_,fun c4=> ?_⟩
 refine⟨fun c5=> ?_,fun c5=> ?_⟩
 refine⟨fun c6=> ?_,fun c6=> ?_⟩
 refine⟨fun c7=> ?_,fun c7=> ?_⟩
 refine⟨fun c8=> ?_,fun c8=> ?_⟩
 refine⟨fun c9=> ?_,fun c9=> ?_⟩
 refine⟨fun c10=> ?_,fun c10=> ?_⟩
 refine⟨fun c11=> ?_,fun c11=> ?_⟩
 refine⟨fun c12=> ?_,fun c12=> ?_⟩
 refine⟨fun c13=> ?_,fun c13=> ?_⟩
 refine⟨fun c14=> ?_,fun c14=> ?_⟩
 refine⟨fun c15=> ?_,fun c15=> ?_⟩
 refine⟨fun c16=> ?_,fun c16=> ?_⟩
 refine⟨fun c17=> ?_,fun c17=> ?_⟩
 refine⟨fun c18=> ?_,fun c18=> ?_⟩
 refine⟨fun c19=> ?_,fun c19=> ?_⟩
 refine⟨fun c20=> ?_,fun c20=> ?_⟩
 refine⟨fun c21=> ?_,fun c21=> ?_⟩
 refine⟨fun c22=> ?_,fun c22=> ?_⟩
 refine⟨fun c23=> ?_,fun c23=> ?_⟩
 refine⟨fun c24=> ?_,fun c24=> ?_⟩
 refine⟨fun c25=> ?_,fun c25=> ?_⟩
 refine⟨fun c26=> ?_,fun c26=> ?_⟩
 refine⟨fun c27=> ?_,fun c27=> ?_⟩
 refine⟨fun c28=> ?_,fun c28=> ?_⟩
 refine⟨fun c29=> ?_,fun c29=> ?_⟩
 refine⟨fun c30=> ?_,fun c30=> ?_⟩
 refine⟨fun c31=> ?_,fun c31=> ?_⟩
 refine⟨fun c32=> ?_,fun c32=> ?_⟩
 refine⟨fun c33=> ?_,fun c33=> ?_⟩
 refine⟨fun c34=> ?_,fun c34=> ?_⟩
 refine⟨fun c35=> ?_,fun c35=> ?_⟩
 refine⟨fun c36=> ?_,fun c36=> ?_⟩
 refine⟨fun c37=> ?_,fun c37=> ?_⟩
 refine⟨fun c38=> ?_,fun c38=> ?_⟩
 refine⟨fun c39=> ?_,fun c39=> ?_⟩
 refine⟨fun c40=> ?_,fun c40=> ?_⟩
 refine⟨fun c41=> ?_,fun c41=> ?_⟩
 refine⟨fun c42=> ?_,fun c42=> ?_⟩
 refine⟨fun c43=> ?_,fun c43=> ?_⟩
 refine⟨fun c44=> ?_,fun c44=> ?_⟩
 refine⟨fun c45=> ?_,fun c45=> ?_⟩
 refine⟨fun c46=> ?_,fun c46=> ?_⟩
 refine⟨fun c47=> ?_,fun c47=> ?_⟩
 refine⟨fun c48=> ?_,fun c48=> ?_⟩
 refine⟨fun c49=> ?_,fun c49=> ?_⟩
 refine⟨fun c50=> ?_,fun c50=> ?_⟩
 refine⟨fun c51=> ?_,fun c51=> ?_⟩
 refine⟨fun c52=> ?_,fun c52=> ?_⟩
 refine⟨fun c53=> ?_,fun c53=> ?_⟩
 refine⟨fun c54=> ?_,fun c54=> ?_⟩
 refine⟨fun c55=> ?_,fun c55=> ?_⟩
 refine⟨fun c56=> ?_,fun c56=> ?_⟩
 refine⟨fun c57=> ?_,fun c57=> ?_⟩
 refine⟨fun c58=> ?_,fun c58=> ?_⟩
 refine⟨fun c59=> ?_,fun c59=> ?_⟩
 refine⟨fun c60=> ?_,fun c60=> ?_⟩
 refine⟨fun c61=> ?_,fun c61=> ?_⟩
 refine⟨fun c62=> ?_,fun c62=> ?_⟩
 refine⟨fun c63=> ?_,fun c63=> ?_⟩
 ·rfl
 ·exact absurd (of_decide_eq_false c63) (by have:=hp.2.2.1; omega)
 ·exact absurd (of_decide_eq_false c62) (by have:=hp.2.2.1; omega)
 ·exact absurd (of_decide_eq_false c61) (by have:=hp.2.2.1; omega)
 ·exact absurd (of_decide_eq_false c60) (by have:=hp.2.2.1; omega)
 ·exact absurd (of_decide_eq_false c59) (by have:=hp.2.2.1; omega)
 ·exact absurd (of_decide_eq_false c58) (by have:=hp.2.2.1; omega)
 ·exact absurd (of_decide_eq_false c57) (by have:=hp.2.2.1; omega)
 ·exact absurd (of_decide_eq_false c56) (by have:=hp.2.2.1; omega)
 ·exact absurd (of_decide_eq_false c55) (by have:=hp.2.2.1; omega)
 ·exact absurd (of_decide_eq_false c54) (by have:=hp.2.2.1; omega)
 ·exact absurd (of_decide_eq_false c53) (by have:=hp.2.2.1; omega)
 ·exact absurd (of_decide_eq_false c52) (by have:=hp.2.2.1; omega)
 ·exact absurd (of_decide_eq_false c51) (by have:=hp.2.2.1; omega)
 ·exact absurd (of_decide_eq_false c50) (by have:=hp.2.2.1; omega)
 ·exact absurd (of_decide_eq_false c49) (by have:=hp.2.2.1; omega)
 ·exact absurd (of_decide_eq_false c48) (by have:=hp.2.2.1; omega)
 ·exact absurd (of_decide_eq_false c47) (by have:=hp.2.2.1; omega)
 ·exact absurd (of_decide_eq_false c46) (by have:=hp.2.2.1; omega)
 ·exact absurd (of_decide_eq_false c45) (by have:=hp.2.2.1; omega)
 ·exact absurd (of_decide_eq_false c44) (by have:=hp.2.2.1; omega)
 ·exact absurd (of_decide_eq_false c43) (by have:=hp.2.2.1; omega)
 ·exact absurd (of_decide_eq_false c42) (by have:=hp.2.2.1; omega)
 ·exact absurd (of_decide_eq_false c41) (by have:=hp.2.2.1; omega)
 ·exact absurd (of_decide_eq_false c40) (by have:=hp.2.2.1; omega)
 ·exact absurd (of_decide_eq_false c39) (by have:=hp.2.2.1; omega)
 ·exact absurd (of_decide_eq_false c38) (by have:=hp.2.2.1; omega)
 ·exact absurd (of_decide_eq_false c37) (by have:=hp.2.2.1; omega)
 ·exact absurd (of_decide_eq_false c36) (by have:=hp.2.2.1; omega)
 ·exact absurd (of_decide_eq_false c35) (by have:=hp.2.2.1; omega)
 ·exact absurd (of_decide_eq_false c34) (by have:=hp.2.2.1; omega)
 ·exact absurd (of_decide_eq_false c33) (by have:=hp.2.2.1; omega)
 ·exact absurd (of_decide_eq_false c32) (by have:=hp.2.2.1; omega)
 ·exact absurd (of_decide_eq_false c31) (by have:=hp.2.2.1; omega)
 ·exact absurd (of_decide_eq_false c30) (by have:=hp.2.2.1; omega)
 ·exact absurd (of_decide_eq_false c29) (by have:=hp.2.2.1; omega)
 ·exact absurd (of_decide_eq_false c28) (by have:=hp.2.2.1; omega)
 ·exact absurd (of_decide_eq_false c27) (by have:=hp.2.2.1; omega)
 ·exact absurd (of_decide_eq_false c26) (by have:=hp.2.2.1; omega)
 ·exact absurd (of_decide_eq_false c25) (by have:=hp.2.2.1; omega)
 ·exact absurd (of_decide_eq_false c24) (by have:=hp.2.2.1; omega)
 ·exact absurd (of_decide_eq_false c23) (by have:=hp.2.2.1; omega)
 ·exact absurd (of_decide_eq_false c22) (by have:=hp.2.2.1; omega)
 ·exact absurd (of_decide_eq_false c21) (by have:=hp.2.2.1; omega)
 ·exact absurd (of_decide_eq_false c20) (by have:=hp.2.2.1; omega)
 ·exact absurd (of_decide_eq_false c19) (by have:=hp.2.2.1; omega)
 ·exact absurd (of_decide_eq_false c18) (by have:=hp.2.2.1; omega)
 ·exact absurd (of_decide_eq_false c17) (by have:=hp.2.2.1; omega)
 ·exact absurd (of_decide_eq_false c16) (by have:=hp.2.2.1; omega)
 ·exact absurd (of_decide_eq_false c15) (by have:=hp.2.2.1; omega)
 ·exact absurd (of_decide_eq_false c14) (by have:=hp.2.2.1; omega)
 ·exact absurd (of_decide_eq_false c13) (by have:=hp.2.2.1; omega)
 ·exact absurd (of_decide_eq_false c12) (by have:=hp.2.2.1; omega)
 ·exact absurd (of_decide_eq_false c11) (by have:=hp.2.2.1; omega)
 ·exact absurd (of_decide_eq_false c10) (by have:=hp.2.2.1; omega)
 ·exact absurd (of_decide_eq_false c9) (by have:=hp.2.2.1; omega)
 ·exact absurd (of_decide_eq_false c8) (by have:=hp.2.2.1; omega)
 ·exact absurd (of_decide_eq_false c7) (by have:=hp.2.2.1; omega)
 ·exact absurd (of_decide_eq_false c6) (by have:=hp.2.2.1; omega)
 ·exact absurd (of_decide_eq_false c5) (by have:=hp.2.2.1; omega)
 ·exact absurd (of_decide_eq_false c4) (by have:=hp.2.2.1; omega)
 ·exact absurd (of_decide_eq_false c3) (by have:=hp.2.2.1; omega)
 ·exact absurd (of_decide_eq_false c2) (by have:=hp.2.2.1; omega)
 ·exact absurd (of_decide_eq_false c1) (by have:=hp.2.2.1; omega)
 ·exact absurd (of_decide_eq_false c0) (by have:=hp.2.2.1; omega)
theorem vN {sp:Spec} {key:Nat} (hF:sp.F key=dS) (hP:sp.pre key=cV):SmOk Try.prog sp (jB key):=
 aS (s:=jB key) hF hP (by kernel_rfl) bR (sm0) Try.func48 fn0 vp (.inr (.inl ⟨(fun xs h L hL=>by unfold cV at h; split at h<;>first | exact h.elim | (simp at hL; rcases hL with rfl | rfl | rfl | rfl; exact Nat.le_trans (Nat.le_of_eq (congrArg List.length h.1)) (by decide); exact Nat.le_trans h.2.1 (by decide); exact Nat.le_trans (Nat.le_of_eq h.2.2.1) (by decide); exact Nat.le_trans (Nat.le_of_eq (congrArg List.length h.2.2.2)) (by decide))),rfl⟩)) (fun x0 gx0 x1 gx1 x2 gx2 x3 gx3 hp ρ g=>vd ⟨x0,x1,x2,x3⟩ ⟨gx0,gx1,gx2,gx3⟩ hp ρ g)
def pp (key:Nat):Sm:=⟨31,key,[.ptr td],[.one (.sl [some .u8] 5)],false⟩
def pi (m:JMem):List Dt:=[.l m.l1]
def jJ:List Dt→List Dt
 | [.l x0,.l x1,.l x2,.l x3]=>pi ⟨x0,x1,x2,x3⟩
 | _=>[]
def sT_jctx:Tr:=
(.call 0 [.sl [some .u8] 5] (.consl (.lvar 1) .nil) 4
(.leaf (.consl (.lvar 4) .nil)))
def vB:Spec:=⟨fun k=>match k with | 0=>dj | _=>fun _=>[],fun k=>match k with | 0=>cJ | _=>fun _=>True⟩
set_option maxRecDepth 100000 in
theorem aaK:aM tys_MrB [iR 0] [] [] [] 200 Try.f31 [.ptr td] [.one (.sl [some .u8] 5)] false [.list [some .u8],.list [some .u8],.list [some .u8],.list [some .u8]] sT_jctx:=⟨by kernel_rfl,by kernel_rfl,by kernel_rfl⟩
def gK:List Dt→Prop
 | [.l x0,.l x1,.l x2,.l x3]=>let f (m:JMem):Prop:=m.l0=[]∧m.l1.length≤256∧m.l2.length=64∧m.l3=[]; f ⟨x0,x1,x2,x3⟩
 | _=>False
set_option maxRecDepth 100000 in
set_option maxHeartbeats 8000000 in
theorem aaz (m:JMem) (hm:JMem.ok m) (hp:gK [.l m.l0,.l m.l1,.l m.l2,.l m.l3]) (ρ:Env) (g:ah ρ 0 [.list [some .u8],.list [some .u8],.list [some .u8],.list [some .u8]]=[.l m.l0,.l m.l1,.l m.l2,.l m.l3]):sT_jctx.asks vB (fun ρ e=>e.D ρ=jJ [.l m.l0,.l m.l1,.l m.l2,.l m.l3]) ρ fun _ _=>False:=by
 simp only[gK,b2i_one,Ins.eta,Prog.eta,aa,Mem.eta,Mach.eta] at hp
 simp only[ah,varD,List.cons.injEq,Dt.z.injEq,Dt.l.injEq,b2i_eq_iff,Nat.reduceAdd,and_true] at g
 simp only[sT_jctx,vB,dj,iN,jJ,pi,cJ,Tr.asks,am,okDs,okD,eqs,E.I,E.B,E.L,E.R,E.D,E.vs,dI,dB,dL,varD,ah,List.getElem?_cons_zero,List.getElem?_cons_succ,List.cons_append,List.nil_append,Nat.zero_add,Nat.add_zero,Nat.reduceAdd,and_true,true_and,b2i_one,-eq_self,Ins.eta,Prog.eta,aa,Mem.eta,Mach.eta,g]
 refine⟨?_,?_⟩
 ·exact Nat.le_trans hp.2.1 (by decide)
 intro e; (try simp only[e,Ins.eta,Prog.eta,aa,Mem.eta,Mach.eta,-eq_self]); clear e
 ·rfl
theorem aaR {sp:Spec} {key:Nat} (hF:sp.F key=jJ) (hP:sp.pre key=gK):SmOk Try.prog sp (pp key):=
 aS (s:=pp key) hF hP (by kernel_rfl) bR (smc (qO rfl rfl) sm0) Try.func31 fn0 aaK (.inr (.inl ⟨(fun xs h L hL=>by unfold gK at h; split at h<;>first | exact h.elim | (simp at hL; rcases hL with rfl | rfl | rfl | rfl; exact Nat.le_trans (Nat.le_of_eq (congrArg List.length h.1)) (by decide); exact Nat.le_trans h.2.1 (by decide); exact Nat.le_trans (Nat.le_of_eq h.2.2.1) (by decide); exact Nat.le_trans (Nat.le_of_eq (congrArg List.length h.2.2.2)) (by decide))),rfl⟩)) (fun x0 gx0 x1 gx1 x2 gx2 x3 gx3 hp ρ g=>aaz ⟨x0,x1,x2,x3⟩ ⟨gx0,gx1,gx2,gx3⟩ hp ρ g)
end Go.Proofs.Ytghiofgomcihcaa
