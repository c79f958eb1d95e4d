import Derived.Test.YtghiofgomcihcaaMmZ
import Derived.Test.YtghiofgomcihcaaProg
import Derived.Laws.Externs
set_option linter.unusedVariables false
set_option linter.unusedSimpArgs false
namespace Go.Proofs.Ytghiofgomcihcaa
open Go.RowKit Go.ChangeShapes Go.WideShapes
theorem Mem.eta (a:Mem):(⟨a.b0,a.l0,a.w0,a.b1,a.l1,a.w1,a.b2,a.l2,a.w2,a.b3,a.l3,a.w3⟩:Mem)=a:=rfl
def Mem.ok (a:Mem):Prop:=inK .u64 a.b0=true∧RowsIn [some .u8] a.l0∧inK .u64 a.b1=true∧RowsIn [some .u8] a.l1∧inK .u64 a.b2=true∧RowsIn [some .u8] a.l2∧inK .u64 a.b3=true∧RowsIn [some .u8] a.l3
def kMem:List CK:=[.int .u64,.sl [some .u8] 5,.bool,.int .u64,.sl [some .u8] 5,.bool,.int .u64,.sl [some .u8] 5,.bool,.int .u64,.sl [some .u8] 5,.bool]
def tys_MmB:List (Nat×TI):=[(3,⟨false,1,[.int .i64 (.lit 0)],[],none,some .i64,false,false,none,8,false,none,false,0⟩),
 (4,⟨false,1,[.bool (.tt false)],[],none,none,false,true,none,1,false,none,false,0⟩),
 (5,⟨false,1,[.int .u8 (.lit 0)],[],none,some .u8,false,false,none,1,false,none,false,0⟩),
 (25,⟨false,1,[.nsl],[],none,none,false,false,some 5,24,false,none,false,0⟩),
 (30,⟨false,1,[.int .u64 (.lit 0)],[],none,some .u64,false,false,none,8,false,none,false,0⟩),
 (67,⟨false,1,[.nilp],[],none,none,false,false,none,8,false,none,false,1⟩),
 (106,⟨true,3,[.int .u64 (.lit 0),.nsl,.bool (.tt false)],[(0,30),(1,25),(2,4)],none,none,false,false,none,40,false,none,false,0⟩),
 (107,⟨true,12,[.int .u64 (.lit 0),.nsl,.bool (.tt false),.int .u64 (.lit 0),.nsl,.bool (.tt false),.int .u64 (.lit 0),.nsl,.bool (.tt false),.int .u64 (.lit 0),.nsl,.bool (.tt false)],[],some (4,106),none,false,false,none,160,false,none,false,0⟩),
 (109,⟨true,12,[.int .u64 (.lit 0),.nsl,.bool (.tt false),.int .u64 (.lit 0),.nsl,.bool (.tt false),.int .u64 (.lit 0),.nsl,.bool (.tt false),.int .u64 (.lit 0),.nsl,.bool (.tt false)],[(0,107)],none,none,false,false,none,160,false,none,false,0⟩)]
set_option maxRecDepth 100000 in
theorem uo:(tys_MmB.all fun p=>ckTI Try.prog p.1 p.2)=true:=by kernel_rfl
theorem ng:(tys_MmB.all fun p=>!p.2.eqok)=true:=by kernel_rfl
theorem ud:(tys_MmB.all fun p=>!p.2.keyok)=true:=by kernel_rfl
theorem tV:∀t i,(t,i)∈tys_MmB→TIok Try.prog t i:=by
 intro t i h
 refine cQ (eY (f:=ckTI Try.prog) uo h) (fun he=> ?_) (fun he=> ?_) (fun he=> ?_)
 ·have h1:=List.all_eq_true.1 ng (t,i) h
  simp[he] at h1
 ·have h1:=List.all_eq_true.1 ng (t,i) h
  simp[he] at h1
 ·have h1:=List.all_eq_true.1 ud (t,i) h
  simp[he] at h1
def iP (key:Nat):Sm:=⟨75,key,[.ptr kMem,.one (.int .u64),.one (.int .i64)],[.one (.int .u64),.one (.int .i64)],true⟩
def iL (m:Mem) (at_:Int) (n:Int):List Dt:=[.z (rdV m at_ n),.z (rdE m at_ n)]
def dg:List Dt→List Dt
 | [.z x0,.l x1,.z x2,.z x3,.l x4,.z x5,.z x6,.l x7,.z x8,.z x9,.l x10,.z x11,.z x12,.z x13]=>iL ⟨x0,x1,(x2==1),x3,x4,(x5==1),x6,x7,(x8==1),x9,x10,(x11==1)⟩ x12 x13
 | _=>[]
set_option maxRecDepth 100000 in
def sT_mread:Tr:=
(.cut 0 14 []
(.br (.eq (.var 13) (.lit 1))
(.next 0 .nil)
(.br (.eq (.var 13) (.lit 2))
(.next 0 .nil)
(.br (.eq (.var 13) (.lit 4))
(.next 0 .nil)
(.br (.eq (.var 13) (.lit 8))
(.next 0 .nil)
(.loop 1 14 [.int .u64,.int .i64] (.cons (.lit 0) (.cons (.lit (-1)) .nil))
(.br (.lt (.var 15) (.lit 0))
(.leaf (.cons (.var 14) (.cons (.lit 2) .nil)))
.panic))))))
(.cut 1 14 [.bool]
(.br (.lt (.var 12) (.var 0))
(.next 1 (.consb (.tt true) .nil))
(.br (.lt (.conv .u64 (.len (.lvar 1))) (.bin .sub .u64 (.var 12) (.var 0)))
(.next 1 (.consb (.tt true) .nil))
(.next 1 (.consb (.lt (.bin .sub .u64 (.conv .u64 (.len (.lvar 1))) (.bin .sub .u64 (.var 12) (.var 0))) (.conv .u64 (.var 13))) .nil))))
(.br (.bvar 14)
(.cut 2 15 [.bool]
(.br (.lt (.var 12) (.var 3))
(.next 2 (.consb (.tt true) .nil))
(.br (.lt (.conv .u64 (.len (.lvar 4))) (.bin .sub .u64 (.var 12) (.var 3)))
(.next 2 (.consb (.tt true) .nil))
(.next 2 (.consb (.lt (.bin .sub .u64 (.conv .u64 (.len (.lvar 4))) (.bin .sub .u64 (.var 12) (.var 3))) (.conv .u64 (.var 13))) .nil))))
(.br (.bvar 15)
(.cut 3 16 [.bool]
(.br (.lt (.var 12) (.var 6))
(.next 3 (.consb (.tt true) .nil))
(.br (.lt (.conv .u64 (.len (.lvar 7))) (.bin .sub .u64 (.var 12) (.var 6)))
(.next 3 (.consb (.tt true) .nil))
(.next 3 (.consb (.lt (.bin .sub .u64 (.conv .u64 (.len (.lvar 7))) (.bin .sub .u64 (.var 12) (.var 6))) (.conv .u64 (.var 13))) .nil))))
(.br (.bvar 16)
(.cut 4 17 [.bool]
(.br (.lt (.var 12) (.var 9))
(.next 4 (.consb (.tt true) .nil))
(.br (.lt (.conv .u64 (.len (.lvar 10))) (.bin .sub .u64 (.var 12) (.var 9)))
(.next 4 (.consb (.tt true) .nil))
(.next 4 (.consb (.lt (.bin .sub .u64 (.conv .u64 (.len (.lvar 10))) (.bin .sub .u64 (.var 12) (.var 9))) (.conv .u64 (.var 13))) .nil))))
(.br (.bvar 17)
(.loop 5 18 [.int .u64,.int .i64] (.cons (.lit 0) (.cons (.lit (-1)) .nil))
(.br (.lt (.var 19) (.lit 0))
(.leaf (.cons (.var 18) (.cons (.lit 20) .nil)))
.panic))
(.br (.lt (.bin .sub .u64 (.var 12) (.var 9)) (.lit 0))
.panic
(.br (.lt (.bin .add .i64 (.conv .i64 (.bin .sub .u64 (.var 12) (.var 9))) (.var 13)) (.bin .sub .u64 (.var 12) (.var 9)))
.panic
(.br (.lt (.len (.lvar 10)) (.bin .add .i64 (.conv .i64 (.bin .sub .u64 (.var 12) (.var 9))) (.var 13)))
.panic
(.br (.bvar 11)
(.loop 5 18 [.int .u64,.int .i64] (.cons (.lit 0) (.cons (.bin .sub .i64 (.len (.ldrop (.ltake (.lvar 10) (.bin .add .i64 (.conv .i64 (.bin .sub .u64 (.var 12) (.var 9))) (.var 13))) (.bin .sub .u64 (.var 12) (.var 9)))) (.lit 1)) .nil))
(.br (.lt (.var 19) (.lit 0))
(.leaf (.cons (.var 18) (.cons (.lit 0) .nil)))
(.br (.lt (.var 19) (.len (.ldrop (.ltake (.lvar 10) (.bin .add .i64 (.conv .i64 (.bin .sub .u64 (.var 12) (.var 9))) (.var 13))) (.bin .sub .u64 (.var 12) (.var 9)))))
(.br (.lt (.bin .add .i64 (.bin .sub .u64 (.var 12) (.var 9)) (.var 19)) (.lit 0))
(.stuck 54)
(.br (.lt (.bin .add .i64 (.bin .sub .u64 (.var 12) (.var 9)) (.var 19)) (.len (.lvar 10)))
(.next 5 (.cons (.bin .or .u64 (.bin .shl .u64 (.var 18) (.lit 8)) (.conv .u64 (.get (.lvar 10) (.bin .add .i64 (.bin .sub .u64 (.var 12) (.var 9)) (.var 19)) 0))) (.cons (.bin .sub .i64 (.var 19) (.lit 1)) .nil)))
(.stuck 54)))
.panic)))
(.loop 5 18 [.int .u64,.int .i64] (.cons (.lit 0) (.cons (.bin .sub .i64 (.len (.ldrop (.ltake (.lvar 10) (.bin .add .i64 (.conv .i64 (.bin .sub .u64 (.var 12) (.var 9))) (.var 13))) (.bin .sub .u64 (.var 12) (.var 9)))) (.lit 1)) .nil))
(.br (.lt (.var 19) (.lit 0))
(.leaf (.cons (.var 18) (.cons (.lit 0) .nil)))
(.br (.lt (.var 19) (.len (.ldrop (.ltake (.lvar 10) (.bin .add .i64 (.conv .i64 (.bin .sub .u64 (.var 12) (.var 9))) (.var 13))) (.bin .sub .u64 (.var 12) (.var 9)))))
(.br (.lt (.bin .add .i64 (.bin .sub .u64 (.var 12) (.var 9)) (.var 19)) (.lit 0))
(.stuck 54)
(.br (.lt (.bin .add .i64 (.bin .sub .u64 (.var 12) (.var 9)) (.var 19)) (.len (.lvar 10)))
(.next 5 (.cons (.bin .or .u64 (.bin .shl .u64 (.var 18) (.lit 8)) (.conv .u64 (.get (.lvar 10) (.bin .add .i64 (.bin .sub .u64 (.var 12) (.var 9)) (.var 19)) 0))) (.cons (.bin .sub .i64 (.var 19) (.lit 1)) .nil)))
(.stuck 54)))
.panic)))))))))
(.br (.lt (.bin .sub .u64 (.var 12) (.var 6)) (.lit 0))
.panic
(.br (.lt (.bin .add .i64 (.conv .i64 (.bin .sub .u64 (.var 12) (.var 6))) (.var 13)) (.bin .sub .u64 (.var 12) (.var 6)))
.panic
(.br (.lt (.len (.lvar 7)) (.bin .add .i64 (.conv .i64 (.bin .sub .u64 (.var 12) (.var 6))) (.var 13)))
.panic
(.br (.bvar 8)
(.loop 4 17 [.int .u64,.int .i64] (.cons (.lit 0) (.cons (.bin .sub .i64 (.len (.ldrop (.ltake (.lvar 7) (.bin .add .i64 (.conv .i64 (.bin .sub .u64 (.var 12) (.var 6))) (.var 13))) (.bin .sub .u64 (.var 12) (.var 6)))) (.lit 1)) .nil))
(.br (.lt (.var 18) (.lit 0))
(.leaf (.cons (.var 17) (.cons (.lit 0) .nil)))
(.br (.lt (.var 18) (.len (.ldrop (.ltake (.lvar 7) (.bin .add .i64 (.conv .i64 (.bin .sub .u64 (.var 12) (.var 6))) (.var 13))) (.bin .sub .u64 (.var 12) (.var 6)))))
(.br (.lt (.bin .add .i64 (.bin .sub .u64 (.var 12) (.var 6)) (.var 18)) (.lit 0))
(.stuck 54)
(.br (.lt (.bin .add .i64 (.bin .sub .u64 (.var 12) (.var 6)) (.var 18)) (.len (.lvar 7)))
(.next 4 (.cons (.bin .or .u64 (.bin .shl .u64 (.var 17) (.lit 8)) (.conv .u64 (.get (.lvar 7) (.bin .add .i64 (.bin .sub .u64 (.var 12) (.var 6)) (.var 18)) 0))) (.cons (.bin .sub .i64 (.var 18) (.lit 1)) .nil)))
(.stuck 54)))
.panic)))
(.loop 4 17 [.int .u64,.int .i64] (.cons (.lit 0) (.cons (.bin .sub .i64 (.len (.ldrop (.ltake (.lvar 7) (.bin .add .i64 (.conv .i64 (.bin .sub .u64 (.var 12) (.var 6))) (.var 13))) (.bin .sub .u64 (.var 12) (.var 6)))) (.lit 1)) .nil))
(.br (.lt (.var 18) (.lit 0))
(.leaf (.cons (.var 17) (.cons (.lit 0) .nil)))
(.br (.lt (.var 18) (.len (.ldrop (.ltake (.lvar 7) (.bin .add .i64 (.conv .i64 (.bin .sub .u64 (.var 12) (.var 6))) (.var 13))) (.bin .sub .u64 (.var 12) (.var 6)))))
(.br (.lt (.bin .add .i64 (.bin .sub .u64 (.var 12) (.var 6)) (.var 18)) (.lit 0))
(.stuck 54)
(.br (.lt (.bin .add .i64 (.bin .sub .u64 (.var 12) (.var 6)) (.var 18)) (.len (.lvar 7)))
(.next 4 (.cons (.bin .or .u64 (.bin .shl .u64 (.var 17) (.lit 8)) (.conv .u64 (.get (.lvar 7) (.bin .add .i64 (.bin .sub .u64 (.var 12) (.var 6)) (.var 18)) 0))) (.cons (.bin .sub .i64 (.var 18) (.lit 1)) .nil)))
(.stuck 54)))
.panic)))))))))
(.br (.lt (.bin .sub .u64 (.var 12) (.var 3)) (.lit 0))
.panic
(.br (.lt (.bin .add .i64 (.conv .i64 (.bin .sub .u64 (.var 12) (.var 3))) (.var 13)) (.bin .sub .u64 (.var 12) (.var 3)))
.panic
(.br (.lt (.len (.lvar 4)) (.bin .add .i64 (.conv .i64 (.bin .sub .u64 (.var 12) (.var 3))) (.var 13)))
.panic
(.br (.bvar 5)
(.loop 3 16 [.int .u64,.int .i64] (.cons (.lit 0) (.cons (.bin .sub .i64 (.len (.ldrop (.ltake (.lvar 4) (.bin .add .i64 (.conv .i64 (.bin .sub .u64 (.var 12) (.var 3))) (.var 13))) (.bin .sub .u64 (.var 12) (.var 3)))) (.lit 1)) .nil))
(.br (.lt (.var 17) (.lit 0))
(.leaf (.cons (.var 16) (.cons (.lit 0) .nil)))
(.br (.lt (.var 17) (.len (.ldrop (.ltake (.lvar 4) (.bin .add .i64 (.conv .i64 (.bin .sub .u64 (.var 12) (.var 3))) (.var 13))) (.bin .sub .u64 (.var 12) (.var 3)))))
(.br (.lt (.bin .add .i64 (.bin .sub .u64 (.var 12) (.var 3)) (.var 17)) (.lit 0))
(.stuck 54)
(.br (.lt (.bin .add .i64 (.bin .sub .u64 (.var 12) (.var 3)) (.var 17)) (.len (.lvar 4)))
(.next 3 (.cons (.bin .or .u64 (.bin .shl .u64 (.var 16) (.lit 8)) (.conv .u64 (.get (.lvar 4) (.bin .add .i64 (.bin .sub .u64 (.var 12) (.var 3)) (.var 17)) 0))) (.cons (.bin .sub .i64 (.var 17) (.lit 1)) .nil)))
(.stuck 54)))
.panic)))
(.loop 3 16 [.int .u64,.int .i64] (.cons (.lit 0) (.cons (.bin .sub .i64 (.len (.ldrop (.ltake (.lvar 4) (.bin .add .i64 (.conv .i64 (.bin .sub .u64 (.var 12) (.var 3))) (.var 13))) (.bin .sub .u64 (.var 12) (.var 3)))) (.lit 1)) .nil))
(.br (.lt (.var 17) (.lit 0))
(.leaf (.cons (.var 16) (.cons (.lit 0) .nil)))
(.br (.lt (.var 17) (.len (.ldrop (.ltake (.lvar 4) (.bin .add .i64 (.conv .i64 (.bin .sub .u64 (.var 12) (.var 3))) (.var 13))) (.bin .sub .u64 (.var 12) (.var 3)))))
(.br (.lt (.bin .add .i64 (.bin .sub .u64 (.var 12) (.var 3)) (.var 17)) (.lit 0))
(.stuck 54)
(.br (.lt (.bin .add .i64 (.bin .sub .u64 (.var 12) (.var 3)) (.var 17)) (.len (.lvar 4)))
(.next 3 (.cons (.bin .or .u64 (.bin .shl .u64 (.var 16) (.lit 8)) (.conv .u64 (.get (.lvar 4) (.bin .add .i64 (.bin .sub .u64 (.var 12) (.var 3)) (.var 17)) 0))) (.cons (.bin .sub .i64 (.var 17) (.lit 1)) .nil)))
(.stuck 54)))
.panic)))))))))
(.br (.lt (.bin .sub .u64 (.var 12) (.var 0)) (.lit 0))
.panic
(.br (.lt (.bin .add .i64 (.conv .i64 (.bin .sub .u64 (.var 12) (.var 0))) (.var 13)) (.bin .sub .u64 (.var 12) (.var 0)))
.panic
(.br (.lt (.len (.lvar 1)) (.bin .add .i64 (.conv .i64 (.bin .sub .u64 (.var 12) (.var 0))) (.var 13)))
.panic
(.br (.bvar 2)
(.loop 2 15 [.int .u64,.int .i64] (.cons (.lit 0) (.cons (.bin .sub .i64 (.len (.ldrop (.ltake (.lvar 1) (.bin .add .i64 (.conv .i64 (.bin .sub .u64 (.var 12) (.var 0))) (.var 13))) (.bin .sub .u64 (.var 12) (.var 0)))) (.lit 1)) .nil))
(.br (.lt (.var 16) (.lit 0))
(.leaf (.cons (.var 15) (.cons (.lit 0) .nil)))
(.br (.lt (.var 16) (.len (.ldrop (.ltake (.lvar 1) (.bin .add .i64 (.conv .i64 (.bin .sub .u64 (.var 12) (.var 0))) (.var 13))) (.bin .sub .u64 (.var 12) (.var 0)))))
(.br (.lt (.bin .add .i64 (.bin .sub .u64 (.var 12) (.var 0)) (.var 16)) (.lit 0))
(.stuck 54)
(.br (.lt (.bin .add .i64 (.bin .sub .u64 (.var 12) (.var 0)) (.var 16)) (.len (.lvar 1)))
(.next 2 (.cons (.bin .or .u64 (.bin .shl .u64 (.var 15) (.lit 8)) (.conv .u64 (.get (.lvar 1) (.bin .add .i64 (.bin .sub .u64 (.var 12) (.var 0)) (.var 16)) 0))) (.cons (.bin .sub .i64 (.var 16) (.lit 1)) .nil)))
(.stuck 54)))
.panic)))
(.loop 2 15 [.int .u64,.int .i64] (.cons (.lit 0) (.cons (.bin .sub .i64 (.len (.ldrop (.ltake (.lvar 1) (.bin .add .i64 (.conv .i64 (.bin .sub .u64 (.var 12) (.var 0))) (.var 13))) (.bin .sub .u64 (.var 12) (.var 0)))) (.lit 1)) .nil))
(.br (.lt (.var 16) (.lit 0))
(.leaf (.cons (.var 15) (.cons (.lit 0) .nil)))
(.br (.lt (.var 16) (.len (.ldrop (.ltake (.lvar 1) (.bin .add .i64 (.conv .i64 (.bin .sub .u64 (.var 12) (.var 0))) (.var 13))) (.bin .sub .u64 (.var 12) (.var 0)))))
(.br (.lt (.bin .add .i64 (.bin .sub .u64 (.var 12) (.var 0)) (.var 16)) (.lit 0))
(.stuck 54)
(.br (.lt (.bin .add .i64 (.bin .sub .u64 (.var 12) (.var 0)) (.var 16)) (.len (.lvar 1)))
(.next 2 (.cons (.bin .or .u64 (.bin .shl .u64 (.var 15) (.lit 8)) (.conv .u64 (.get (.lvar 1) (.bin .add .i64 (.bin .sub .u64 (.var 12) (.var 0)) (.var 16)) 0))) (.cons (.bin .sub .i64 (.var 16) (.lit 1)) .nil)))
(.stuck 54)))
.panic))))))))))
def qD:Spec:=⟨fun k=>match k with | _=>fun _=>[],fun k=>match k with | _=>fun _=>True⟩
set_option maxRecDepth 100000 in
theorem yj:aM tys_MmB [] [(88,Try.f88,[],[(5,[.top 15,.top 18,.top 16,.top 17,.top 8,.top 9,.top 19,.top 20,.top 21,.top 22,.top 23,.top 24,.top 25,.top 26,.top 27,.top 28,.top 29,.top 30,.top 31,.top 32])]),(105,Try.f105,[],[(3,[.tmpB 43,.top 15,.top 16,.top 17,.top 18,.top 19,.top 20,.top 21,.top 22,.top 23,.top 24,.top 25,.top 26,.top 27,.top 28,.top 29,.top 30,.top 31,.top 32,.top 33,.top 34,.top 35,.top 36,.top 37,.top 38,.top 39,.top 40,.top 41,.top 42])])] [(3,[.tmpI 6 .u64,.tmpI 9 .i64,.top 20,.top 21,.top 24,.top 25,.top 26,.top 27,.top 28,.top 29,.top 30,.top 31,.top 22,.top 23]),(999998,[])] [] 200 Try.f75 [.ptr kMem,.one (.int .u64),.one (.int .i64)] [.one (.int .u64),.one (.int .i64)] true [.int .u64,.list [some .u8],.bool,.int .u64,.list [some .u8],.bool,.int .u64,.list [some .u8],.bool,.int .u64,.list [some .u8],.bool,.int .u64,.int .i64] sT_mread:=⟨by kernel_rfl,by kernel_rfl,by kernel_rfl⟩
def cH:List Dt→Prop
 | [.z x0,.l x1,.z x2,.z x3,.l x4,.z x5,.z x6,.l x7,.z x8,.z x9,.l x10,.z x11,.z x12,.z x13]=>let f (m:Mem) (at_:Int) (n:Int):Prop:=m.fit; f ⟨x0,x1,(x2==1),x3,x4,(x5==1),x6,x7,(x8==1),x9,x10,(x11==1)⟩ x12 x13
 | _=>False
set_option maxRecDepth 100000 in
set_option maxHeartbeats 8000000 in
theorem yb (m:Mem) (hm:Mem.ok m) (at_:Int) (hat_:inK .u64 at_=true) (n:Int) (hn:inK .i64 n=true) (hp:cH [.z m.b0,.l m.l0,.z (b2i m.w0),.z m.b1,.l m.l1,.z (b2i m.w1),.z m.b2,.l m.l2,.z (b2i m.w2),.z m.b3,.l m.l3,.z (b2i m.w3),.z at_,.z n]) (ρ:Env) (g:ah ρ 0 [.int .u64,.list [some .u8],.bool,.int .u64,.list [some .u8],.bool,.int .u64,.list [some .u8],.bool,.int .u64,.list [some .u8],.bool,.int .u64,.int .i64]=[.z m.b0,.l m.l0,.z (b2i m.w0),.z m.b1,.l m.l1,.z (b2i m.w1),.z m.b2,.l m.l2,.z (b2i m.w2),.z m.b3,.l m.l3,.z (b2i m.w3),.z at_,.z n]):sT_mread.asks qD (fun ρ e=>e.D ρ=dg [.z m.b0,.l m.l0,.z (b2i m.w0),.z m.b1,.l m.l1,.z (b2i m.w1),.z m.b2,.l m.l2,.z (b2i m.w2),.z m.b3,.l m.l3,.z (b2i m.w3),.z at_,.z n]) ρ fun _ _=>False:=by
 simp only[cH,b2i_one,Mem.eta] at hp
 have keepg:=g
 simp only[ah,varD,List.cons.injEq,Dt.z.injEq,Dt.l.injEq,b2i_eq_iff,Nat.reduceAdd,and_true] at g
 simp only[sT_mread,qD,dg,iL,Tr.asks,am,okDs,okD,eqs,E.I,E.B,E.L,E.R,E.D,E.vs,dI,dB,dL,varD,ah,List.getElem?_cons_zero,List.getElem?_cons_succ,List.cons_append,List.nil_append,Nat.zero_add,Nat.add_zero,Nat.reduceAdd,and_true,true_and,b2i_one,-eq_self,Mem.eta,g]
 obtain⟨k0_i0,k0_l1,k0_b2,k0_i3,k0_l4,k0_b5,k0_i6,k0_l7,k0_b8,k0_i9,k0_l10,k0_b11,k0_i12,k0_i13⟩:=g
 obtain⟨-,r0,-,r1,-,r2,-,r3⟩:=hm
 have hb0:0≤m.b0:=by rw[hp.b0]; decide
 have hb1:0≤m.b1:=by rw[hp.b1]; decide
 have hb2:0≤m.b2:=by rw[hp.b2]; decide
 have hb3:0≤m.b3:=by rw[hp.b3]; decide
 have hl0:m.l0.length≤1048576:=Nat.le_trans hp.l0 (by decide)
 have hl1:m.l1.length≤1048576:=Nat.le_trans hp.l1 (by decide)
 have hl2:m.l2.length≤1048576:=Nat.le_trans (Nat.le_of_eq hp.l2) (by decide)
 have hl3:m.l3.length≤1048576:=Nat.le_trans hp.l3 (by decide)
 refine⟨fun ds=>ds=[]∧aJ n=true,?_,?_⟩
 refine⟨fun c0=> ?_,fun c0=> ?_⟩
 ·exact⟨rfl,by simp[aJ,eqI c0]⟩
 refine⟨fun c1=> ?_,fun c1=> ?_⟩
 ·exact⟨rfl,by simp[aJ,eqI c1]⟩
 refine⟨fun c2=> ?_,fun c2=> ?_⟩
 ·exact⟨rfl,by simp[aJ,eqI c2]⟩
 refine⟨fun c3=> ?_,fun c3=> ?_⟩
 ·exact⟨rfl,by simp[aJ,eqI c3]⟩
 refine⟨fun ds=>ds=[.z 0,.z (-1)],fun _=>0,rfl,?_⟩
 intro ρ1 ha1 _ hi1
 simp only[List.cons.injEq,Dt.z.injEq,Dt.l.injEq,b2i_eq_iff,and_true] at hi1
 obtain⟨k1_i14,k1_i15⟩:=hi1
 simp only[k1_i14,k1_i15,-eq_self]
 refine⟨fun c4=> ?_,fun c4=> ?_⟩
 ·have hs:aJ n=false:=by simp[aJ,neI c0,neI c1,neI c2,neI c3]
  simp[rdV,rdE,hs]
 ·exact absurd c4 (by decide)
 intro ρ1 ha1 _ hi1
 obtain⟨_,hs⟩:=hi1
 have hn3:=aI hs
 have h1:1≤n:=by omega
 have h8:n≤8:=by omega
 have k1_i0:ρ1.i 0=_:=(ha1 0 (by decide)).1.symm.trans k0_i0
 have k1_l1:ρ1.l 1=_:=(ha1 1 (by decide)).2.2.symm.trans k0_l1
 have k1_b2:ρ1.b 2=_:=(ha1 2 (by decide)).2.1.symm.trans k0_b2
 have k1_i3:ρ1.i 3=_:=(ha1 3 (by decide)).1.symm.trans k0_i3
 have k1_l4:ρ1.l 4=_:=(ha1 4 (by decide)).2.2.symm.trans k0_l4
 have k1_b5:ρ1.b 5=_:=(ha1 5 (by decide)).2.1.symm.trans k0_b5
 have k1_i6:ρ1.i 6=_:=(ha1 6 (by decide)).1.symm.trans k0_i6
 have k1_l7:ρ1.l 7=_:=(ha1 7 (by decide)).2.2.symm.trans k0_l7
 have k1_b8:ρ1.b 8=_:=(ha1 8 (by decide)).2.1.symm.trans k0_b8
 have k1_i9:ρ1.i 9=_:=(ha1 9 (by decide)).1.symm.trans k0_i9
 have k1_l10:ρ1.l 10=_:=(ha1 10 (by decide)).2.2.symm.trans k0_l10
 have k1_b11:ρ1.b 11=_:=(ha1 11 (by decide)).2.1.symm.trans k0_b11
 have k1_i12:ρ1.i 12=_:=(ha1 12 (by decide)).1.symm.trans k0_i12
 have k1_i13:ρ1.i 13=_:=(ha1 13 (by decide)).1.symm.trans k0_i13
 simp only[k1_i0,k1_l1,k1_b2,k1_i3,k1_l4,k1_b5,k1_i6,k1_l7,k1_b8,k1_i9,k1_l10,k1_b11,k1_i12,k1_i13,-eq_self]
 refine⟨fun ds=>ds=[.z (b2i (!inr m.b0 m.l0 at_ n))],?_,?_⟩
 refine⟨fun c5=> ?_,fun c5=> ?_⟩
 ·exact congrArg (fun x=>[Dt.z (b2i x)]) (dC c5)
 refine⟨fun c6=> ?_,fun c6=> ?_⟩
 ·exact congrArg (fun x=>[Dt.z (b2i x)]) (cb hat_ hb0 h1 c5 hl0 c6)
 ·rw[wrU (a:=n) (by omega) (by omega)]
  exact congrArg (fun x=>[Dt.z (b2i x)]) (bw hat_ hb0 h1 h8 c5 hl0 c6)
 intro ρ2 ha2 _ hi2
 simp only[List.cons.injEq,Dt.z.injEq,Dt.l.injEq,b2i_eq_iff,and_true] at hi2
 have k2_b14:=hi2
 have k2_i0:ρ2.i 0=_:=(ha2 0 (by decide)).1.symm.trans k1_i0
 have k2_l1:ρ2.l 1=_:=(ha2 1 (by decide)).2.2.symm.trans k1_l1
 have k2_b2:ρ2.b 2=_:=(ha2 2 (by decide)).2.1.symm.trans k1_b2
 have k2_i3:ρ2.i 3=_:=(ha2 3 (by decide)).1.symm.trans k1_i3
 have k2_l4:ρ2.l 4=_:=(ha2 4 (by decide)).2.2.symm.trans k1_l4
 have k2_b5:ρ2.b 5=_:=(ha2 5 (by decide)).2.1.symm.trans k1_b5
 have k2_i6:ρ2.i 6=_:=(ha2 6 (by decide)).1.symm.trans k1_i6
 have k2_l7:ρ2.l 7=_:=(ha2 7 (by decide)).2.2.symm.trans k1_l7
 have k2_b8:ρ2.b 8=_:=(ha2 8 (by decide)).2.1.symm.trans k1_b8
 have k2_i9:ρ2.i 9=_:=(ha2 9 (by decide)).1.symm.trans k1_i9
 have k2_l10:ρ2.l 10=_:=(ha2 10 (by decide)).2.2.symm.trans k1_l10
 have k2_b11:ρ2.b 11=_:=(ha2 11 (by decide)).2.1.symm.trans k1_b11
 have k2_i12:ρ2.i 12=_:=(ha2 12 (by decide)).1.symm.trans k1_i12
 have k2_i13:ρ2.i 13=_:=(ha2 13 (by decide)).1.symm.trans k1_i13
 simp only[k2_i0,k2_l1,k2_b2,k2_i3,k2_l4,k2_b5,k2_i6,k2_l7,k2_b8,k2_i9,k2_l10,k2_b11,k2_i12,k2_i13,k2_b14,-eq_self]
 refine⟨fun c7=> ?_,fun c7=> ?_⟩
 refine⟨fun ds=>ds=[.z (b2i (!inr m.b1 m.l1 at_ n))],?_,?_⟩
 refine⟨fun c8=> ?_,fun c8=> ?_⟩
 ·exact congrArg (fun x=>[Dt.z (b2i x)]) (dC c8)
 refine⟨fun c9=> ?_,fun c9=> ?_⟩
 ·exact congrArg (fun x=>[Dt.z (b2i x)]) (cb hat_ hb1 h1 c8 hl1 c9)
 ·rw[wrU (a:=n) (by omega) (by omega)]
  exact congrArg (fun x=>[Dt.z (b2i x)]) (bw hat_ hb1 h1 h8 c8 hl1 c9)
 intro ρ3 ha3 _ hi3
 simp only[List.cons.injEq,Dt.z.injEq,Dt.l.injEq,b2i_eq_iff,and_true] at hi3
 have k3_b15:=hi3
 have k3_i0:ρ3.i 0=_:=(ha3 0 (by decide)).1.symm.trans k2_i0
 have k3_l1:ρ3.l 1=_:=(ha3 1 (by decide)).2.2.symm.trans k2_l1
 have k3_b2:ρ3.b 2=_:=(ha3 2 (by decide)).2.1.symm.trans k2_b2
 have k3_i3:ρ3.i 3=_:=(ha3 3 (by decide)).1.symm.trans k2_i3
 have k3_l4:ρ3.l 4=_:=(ha3 4 (by decide)).2.2.symm.trans k2_l4
 have k3_b5:ρ3.b 5=_:=(ha3 5 (by decide)).2.1.symm.trans k2_b5
 have k3_i6:ρ3.i 6=_:=(ha3 6 (by decide)).1.symm.trans k2_i6
 have k3_l7:ρ3.l 7=_:=(ha3 7 (by decide)).2.2.symm.trans k2_l7
 have k3_b8:ρ3.b 8=_:=(ha3 8 (by decide)).2.1.symm.trans k2_b8
 have k3_i9:ρ3.i 9=_:=(ha3 9 (by decide)).1.symm.trans k2_i9
 have k3_l10:ρ3.l 10=_:=(ha3 10 (by decide)).2.2.symm.trans k2_l10
 have k3_b11:ρ3.b 11=_:=(ha3 11 (by decide)).2.1.symm.trans k2_b11
 have k3_i12:ρ3.i 12=_:=(ha3 12 (by decide)).1.symm.trans k2_i12
 have k3_i13:ρ3.i 13=_:=(ha3 13 (by decide)).1.symm.trans k2_i13
 simp only[k3_i0,k3_l1,k3_b2,k3_i3,k3_l4,k3_b5,k3_i6,k3_l7,k3_b8,k3_i9,k3_l10,k3_b11,k3_i12,k3_i13,k3_b15,-eq_self]
 refine⟨fun c10=> ?_,fun c10=> ?_⟩
 refine⟨fun ds=>ds=[.z (b2i (!inr m.b2 m.l2 at_ n))],?_,?_⟩
 refine⟨fun c11=> ?_,fun c11=> ?_⟩
 ·exact congrArg (fun x=>[Dt.z (b2i x)]) (dC c11)
 refine⟨fun c12=> ?_,fun c12=> ?_⟩
 ·exact congrArg (fun x=>[Dt.z (b2i x)]) (cb hat_ hb2 h1 c11 hl2 c12)
 ·rw[wrU (a:=n) (by omega) (by omega)]
  exact congrArg (fun x=>[Dt.z (b2i x)]) (bw hat_ hb2 h1 h8 c11 hl2 c12)
 intro ρ4 ha4 _ hi4
 simp only[List.cons.injEq,Dt.z.injEq,Dt.l.injEq,b2i_eq_iff,and_true] at hi4
 have k4_b16:=hi4
 have k4_i0:ρ4.i 0=_:=(ha4 0 (by decide)).1.symm.trans k3_i0
 have k4_l1:ρ4.l 1=_:=(ha4 1 (by decide)).2.2.symm.trans k3_l1
 have k4_b2:ρ4.b 2=_:=(ha4 2 (by decide)).2.1.symm.trans k3_b2
 have k4_i3:ρ4.i 3=_:=(ha4 3 (by decide)).1.symm.trans k3_i3
 have k4_l4:ρ4.l 4=_:=(ha4 4 (by decide)).2.2.symm.trans k3_l4
 have k4_b5:ρ4.b 5=_:=(ha4 5 (by decide)).2.1.symm.trans k3_b5
 have k4_i6:ρ4.i 6=_:=(ha4 6 (by decide)).1.symm.trans k3_i6
 have k4_l7:ρ4.l 7=_:=(ha4 7 (by decide)).2.2.symm.trans k3_l7
 have k4_b8:ρ4.b 8=_:=(ha4 8 (by decide)).2.1.symm.trans k3_b8
 have k4_i9:ρ4.i 9=_:=(ha4 9 (by decide)).1.symm.trans k3_i9
 have k4_l10:ρ4.l 10=_:=(ha4 10 (by decide)).2.2.symm.trans k3_l10
 have k4_b11:ρ4.b 11=_:=(ha4 11 (by decide)).2.1.symm.trans k3_b11
 have k4_i12:ρ4.i 12=_:=(ha4 12 (by decide)).1.symm.trans k3_i12
 have k4_i13:ρ4.i 13=_:=(ha4 13 (by decide)).1.symm.trans k3_i13
 simp only[k4_i0,k4_l1,k4_b2,k4_i3,k4_l4,k4_b5,k4_i6,k4_l7,k4_b8,k4_i9,k4_l10,k4_b11,k4_i12,k4_i13,k4_b16,-eq_self]
 refine⟨fun c13=> ?_,fun c13=> ?_⟩
 refine⟨fun ds=>ds=[.z (b2i (!inr m.b3 m.l3 at_ n))],?_,?_⟩
 refine⟨fun c14=> ?_,fun c14=> ?_⟩
 ·exact congrArg (fun x=>[Dt.z (b2i x)]) (dC c14)
 refine⟨fun c15=> ?_,fun c15=> ?_⟩
 ·exact congrArg (fun x=>[Dt.z (b2i x)]) (cb hat_ hb3 h1 c14 hl3 c15)
 ·rw[wrU (a:=n) (by omega) (by omega)]
  exact congrArg (fun x=>[Dt.z (b2i x)]) (bw hat_ hb3 h1 h8 c14 hl3 c15)
 intro ρ5 ha5 _ hi5
 simp only[List.cons.injEq,Dt.z.injEq,Dt.l.injEq,b2i_eq_iff,and_true] at hi5
 have k5_b17:=hi5
 have k5_i0:ρ5.i 0=_:=(ha5 0 (by decide)).1.symm.trans k4_i0
 have k5_l1:ρ5.l 1=_:=(ha5 1 (by decide)).2.2.symm.trans k4_l1
 have k5_b2:ρ5.b 2=_:=(ha5 2 (by decide)).2.1.symm.trans k4_b2
 have k5_i3:ρ5.i 3=_:=(ha5 3 (by decide)).1.symm.trans k4_i3
 have k5_l4:ρ5.l 4=_:=(ha5 4 (by decide)).2.2.symm.trans k4_l4
 have k5_b5:ρ5.b 5=_:=(ha5 5 (by decide)).2.1.symm.trans k4_b5
 have k5_i6:ρ5.i 6=_:=(ha5 6 (by decide)).1.symm.trans k4_i6
 have k5_l7:ρ5.l 7=_:=(ha5 7 (by decide)).2.2.symm.trans k4_l7
 have k5_b8:ρ5.b 8=_:=(ha5 8 (by decide)).2.1.symm.trans k4_b8
 have k5_i9:ρ5.i 9=_:=(ha5 9 (by decide)).1.symm.trans k4_i9
 have k5_l10:ρ5.l 10=_:=(ha5 10 (by decide)).2.2.symm.trans k4_l10
 have k5_b11:ρ5.b 11=_:=(ha5 11 (by decide)).2.1.symm.trans k4_b11
 have k5_i12:ρ5.i 12=_:=(ha5 12 (by decide)).1.symm.trans k4_i12
 have k5_i13:ρ5.i 13=_:=(ha5 13 (by decide)).1.symm.trans k4_i13
 simp only[k5_i0,k5_l1,k5_b2,k5_i3,k5_l4,k5_b5,k5_i6,k5_l7,k5_b8,k5_i9,k5_l10,k5_b11,k5_i12,k5_i13,k5_b17,-eq_self]
 refine⟨fun c16=> ?_,fun c16=> ?_⟩
 refine⟨fun ds=>ds=[.z 0,.z (-1)],fun _=>0,rfl,?_⟩
 intro ρ6 ha6 _ hi6
 simp only[List.cons.injEq,Dt.z.injEq,Dt.l.injEq,b2i_eq_iff,and_true] at hi6
 obtain⟨k6_i18,k6_i19⟩:=hi6
 simp only[k6_i18,k6_i19,-eq_self]
 refine⟨fun c17=> ?_,fun c17=> ?_⟩
 ·have f0:inr m.b0 m.l0 at_ n=false:=by simpa using c7
  have f1:inr m.b1 m.l1 at_ n=false:=by simpa using c10
  have f2:inr m.b2 m.l2 at_ n=false:=by simpa using c13
  have f3:inr m.b3 m.l3 at_ n=false:=by simpa using c16
  simp[rdV,rdE,Mem.reg,hs,f0,f1,f2,f3]
 ·exact absurd c17 (by decide)
 refine⟨fun c18=> ?_,fun c18=> ?_⟩
 ·have f0:inr m.b0 m.l0 at_ n=false:=by simpa using c7
  have f1:inr m.b1 m.l1 at_ n=false:=by simpa using c10
  have f2:inr m.b2 m.l2 at_ n=false:=by simpa using c13
  have f3:inr m.b3 m.l3 at_ n=true:=by simpa using c16
  have W:=Win.of f3 hat_ hb3 hl3 h1 h8
  have w1:=W.lo; have w2:=W.hi; have w3:=W.len
  simp only[W.sub,W.cv,W.add] at c18
  exact absurd (of_decide_eq_true c18) (by omega)
 refine⟨fun c19=> ?_,fun c19=> ?_⟩
 ·have f0:inr m.b0 m.l0 at_ n=false:=by simpa using c7
  have f1:inr m.b1 m.l1 at_ n=false:=by simpa using c10
  have f2:inr m.b2 m.l2 at_ n=false:=by simpa using c13
  have f3:inr m.b3 m.l3 at_ n=true:=by simpa using c16
  have W:=Win.of f3 hat_ hb3 hl3 h1 h8
  have w1:=W.lo; have w2:=W.hi; have w3:=W.len
  simp only[W.sub,W.cv,W.add] at c19
  exact absurd (of_decide_eq_true c19) (by omega)
 refine⟨fun c20=> ?_,fun c20=> ?_⟩
 ·have f0:inr m.b0 m.l0 at_ n=false:=by simpa using c7
  have f1:inr m.b1 m.l1 at_ n=false:=by simpa using c10
  have f2:inr m.b2 m.l2 at_ n=false:=by simpa using c13
  have f3:inr m.b3 m.l3 at_ n=true:=by simpa using c16
  have W:=Win.of f3 hat_ hb3 hl3 h1 h8
  have w1:=W.lo; have w2:=W.hi; have w3:=W.len
  simp only[W.sub,W.cv,W.add] at c20
  exact absurd (of_decide_eq_true c20) (by omega)
 refine⟨fun c21=> ?_,fun c21=> ?_⟩
 have f0:inr m.b0 m.l0 at_ n=false:=by simpa using c7
 have f1:inr m.b1 m.l1 at_ n=false:=by simpa using c10
 have f2:inr m.b2 m.l2 at_ n=false:=by simpa using c13
 have f3:inr m.b3 m.l3 at_ n=true:=by simpa using c16
 have W:=Win.of f3 hat_ hb3 hl3 h1 h8
 refine⟨fun ds=>∃k:Nat,ds=[.z (numL ((winL m.b3 m.l3 at_ n).drop k)),.z ((k:Int)-1)]∧k≤n.toNat,fun ds=>(dI ds 1+1).toNat,⟨n.toNat,W.init,Nat.le_refl _⟩,?_⟩
 intro ρ6 ha6 _ hi6
 obtain⟨k,hds,hk⟩:=hi6
 simp only[List.cons.injEq,Dt.z.injEq,Dt.l.injEq,b2i_eq_iff,and_true] at hds
 obtain⟨k6_i18,k6_i19⟩:=hds
 have k6_i0:ρ6.i 0=_:=(ha6 0 (by decide)).1.symm.trans k5_i0
 have k6_l1:ρ6.l 1=_:=(ha6 1 (by decide)).2.2.symm.trans k5_l1
 have k6_b2:ρ6.b 2=_:=(ha6 2 (by decide)).2.1.symm.trans k5_b2
 have k6_i3:ρ6.i 3=_:=(ha6 3 (by decide)).1.symm.trans k5_i3
 have k6_l4:ρ6.l 4=_:=(ha6 4 (by decide)).2.2.symm.trans k5_l4
 have k6_b5:ρ6.b 5=_:=(ha6 5 (by decide)).2.1.symm.trans k5_b5
 have k6_i6:ρ6.i 6=_:=(ha6 6 (by decide)).1.symm.trans k5_i6
 have k6_l7:ρ6.l 7=_:=(ha6 7 (by decide)).2.2.symm.trans k5_l7
 have k6_b8:ρ6.b 8=_:=(ha6 8 (by decide)).2.1.symm.trans k5_b8
 have k6_i9:ρ6.i 9=_:=(ha6 9 (by decide)).1.symm.trans k5_i9
 have k6_l10:ρ6.l 10=_:=(ha6 10 (by decide)).2.2.symm.trans k5_l10
 have k6_b11:ρ6.b 11=_:=(ha6 11 (by decide)).2.1.symm.trans k5_b11
 have k6_i12:ρ6.i 12=_:=(ha6 12 (by decide)).1.symm.trans k5_i12
 have k6_i13:ρ6.i 13=_:=(ha6 13 (by decide)).1.symm.trans k5_i13
 simp only[k6_i0,k6_l1,k6_b2,k6_i3,k6_l4,k6_b5,k6_i6,k6_l7,k6_b8,k6_i9,k6_l10,k6_b11,k6_i12,k6_i13,k6_i18,k6_i19,W.sub,W.cv,W.add,W.win,-eq_self]
 refine⟨fun c22=> ?_,fun c22=> ?_⟩
 ·obtain rfl:k=0:=by have:=of_decide_eq_true c22; omega
  simp[rdV,rdE,Mem.reg,hs,f0,f1,f2,f3]
 refine⟨fun c23=> ?_,fun c23=> ?_⟩
 refine⟨fun c24=> ?_,fun c24=> ?_⟩
 ·obtain⟨j,rfl⟩:∃j,k=j+1:=⟨k-1,by have:=of_decide_eq_false c22; omega⟩
  have w1:=W.lo; have w2:=W.hi; have w3:=W.len
  rw[show(((j+1:Nat):Int)-1)=(j:Int) by omega,(W.byte hl3 (by omega)).1] at c24
  exact absurd (of_decide_eq_true c24) (by omega)
 refine⟨fun c25=> ?_,fun c25=> ?_⟩
 ·obtain⟨j,rfl⟩:∃j,k=j+1:=⟨k-1,by have:=of_decide_eq_false c22; omega⟩
  exact W.next hl3 r3 hk
 ·obtain⟨j,rfl⟩:∃j,k=j+1:=⟨k-1,by have:=of_decide_eq_false c22; omega⟩
  have w1:=W.lo; have w2:=W.hi; have w3:=W.len
  rw[show(((j+1:Nat):Int)-1)=(j:Int) by omega,(W.byte hl3 (by omega)).1] at c25
  exact absurd (of_decide_eq_false c25) (by omega)
 ·have w1:=W.lo; have w2:=W.hi; have w3:=W.len
  exact absurd (of_decide_eq_false c23) (by omega)
 have f0:inr m.b0 m.l0 at_ n=false:=by simpa using c7
 have f1:inr m.b1 m.l1 at_ n=false:=by simpa using c10
 have f2:inr m.b2 m.l2 at_ n=false:=by simpa using c13
 have f3:inr m.b3 m.l3 at_ n=true:=by simpa using c16
 have W:=Win.of f3 hat_ hb3 hl3 h1 h8
 refine⟨fun ds=>∃k:Nat,ds=[.z (numL ((winL m.b3 m.l3 at_ n).drop k)),.z ((k:Int)-1)]∧k≤n.toNat,fun ds=>(dI ds 1+1).toNat,⟨n.toNat,W.init,Nat.le_refl _⟩,?_⟩
 intro ρ6 ha6 _ hi6
 obtain⟨k,hds,hk⟩:=hi6
 simp only[List.cons.injEq,Dt.z.injEq,Dt.l.injEq,b2i_eq_iff,and_true] at hds
 obtain⟨k6_i18,k6_i19⟩:=hds
 have k6_i0:ρ6.i 0=_:=(ha6 0 (by decide)).1.symm.trans k5_i0
 have k6_l1:ρ6.l 1=_:=(ha6 1 (by decide)).2.2.symm.trans k5_l1
 have k6_b2:ρ6.b 2=_:=(ha6 2 (by decide)).2.1.symm.trans k5_b2
 have k6_i3:ρ6.i 3=_:=(ha6 3 (by decide)).1.symm.trans k5_i3
 have k6_l4:ρ6.l 4=_:=(ha6 4 (by decide)).2.2.symm.trans k5_l4
 have k6_b5:ρ6.b 5=_:=(ha6 5 (by decide)).2.1.symm.trans k5_b5
 have k6_i6:ρ6.i 6=_:=(ha6 6 (by decide)).1.symm.trans k5_i6
 have k6_l7:ρ6.l 7=_:=(ha6 7 (by decide)).2.2.symm.trans k5_l7
 have k6_b8:ρ6.b 8=_:=(ha6 8 (by decide)).2.1.symm.trans k5_b8
 have k6_i9:ρ6.i 9=_:=(ha6 9 (by decide)).1.symm.trans k5_i9
 have k6_l10:ρ6.l 10=_:=(ha6 10 (by decide)).2.2.symm.trans k5_l10
 have k6_b11:ρ6.b 11=_:=(ha6 11 (by decide)).2.1.symm.trans k5_b11
 have k6_i12:ρ6.i 12=_:=(ha6 12 (by decide)).1.symm.trans k5_i12
 have k6_i13:ρ6.i 13=_:=(ha6 13 (by decide)).1.symm.trans k5_i13
 simp only[k6_i0,k6_l1,k6_b2,k6_i3,k6_l4,k6_b5,k6_i6,k6_l7,k6_b8,k6_i9,k6_l10,k6_b11,k6_i12,k6_i13,k6_i18,k6_i19,W.sub,W.cv,W.add,W.win,-eq_self]
 refine⟨fun c26=> ?_,fun c26=> ?_⟩
 ·obtain rfl:k=0:=by have:=of_decide_eq_true c26; omega
  simp[rdV,rdE,Mem.reg,hs,f0,f1,f2,f3]
 refine⟨fun c27=> ?_,fun c27=> ?_⟩
 refine⟨fun c28=> ?_,fun c28=> ?_⟩
 ·obtain⟨j,rfl⟩:∃j,k=j+1:=⟨k-1,by have:=of_decide_eq_false c26; omega⟩
  have w1:=W.lo; have w2:=W.hi; have w3:=W.len
  rw[show(((j+1:Nat):Int)-1)=(j:Int) by omega,(W.byte hl3 (by omega)).1] at c28
  exact absurd (of_decide_eq_true c28) (by omega)
 refine⟨fun c29=> ?_,fun c29=> ?_⟩
 ·obtain⟨j,rfl⟩:∃j,k=j+1:=⟨k-1,by have:=of_decide_eq_false c26; omega⟩
  exact W.next hl3 r3 hk
 ·obtain⟨j,rfl⟩:∃j,k=j+1:=⟨k-1,by have:=of_decide_eq_false c26; omega⟩
  have w1:=W.lo; have w2:=W.hi; have w3:=W.len
  rw[show(((j+1:Nat):Int)-1)=(j:Int) by omega,(W.byte hl3 (by omega)).1] at c29
  exact absurd (of_decide_eq_false c29) (by omega)
 ·have w1:=W.lo; have w2:=W.hi; have w3:=W.len
  exact absurd (of_decide_eq_false c27) (by omega)
 refine⟨fun c30=> ?_,fun c30=> ?_⟩
 ·have f0:inr m.b0 m.l0 at_ n=false:=by simpa using c7
  have f1:inr m.b1 m.l1 at_ n=false:=by simpa using c10
  have f2:inr m.b2 m.l2 at_ n=true:=by simpa using c13
  have W:=Win.of f2 hat_ hb2 hl2 h1 h8
  have w1:=W.lo; have w2:=W.hi; have w3:=W.len
  simp only[W.sub,W.cv,W.add] at c30
  exact absurd (of_decide_eq_true c30) (by omega)
 refine⟨fun c31=> ?_,fun c31=> ?_⟩
 ·have f0:inr m.b0 m.l0 at_ n=false:=by simpa using c7
  have f1:inr m.b1 m.l1 at_ n=false:=by simpa using c10
  have f2:inr m.b2 m.l2 at_ n=true:=by simpa using c13
  have W:=Win.of f2 hat_ hb2 hl2 h1 h8
  have w1:=W.lo; have w2:=W.hi; have w3:=W.len
  simp only[W.sub,W.cv,W.add] at c31
  exact absurd (of_decide_eq_true c31) (by omega)
 refine⟨fun c32=> ?_,fun c32=> ?_⟩
 ·have f0:inr m.b0 m.l0 at_ n=false:=by simpa using c7
  have f1:inr m.b1 m.l1 at_ n=false:=by simpa using c10
  have f2:inr m.b2 m.l2 at_ n=true:=by simpa using c13
  have W:=Win.of f2 hat_ hb2 hl2 h1 h8
  have w1:=W.lo; have w2:=W.hi; have w3:=W.len
  simp only[W.sub,W.cv,W.add] at c32
  exact absurd (of_decide_eq_true c32) (by omega)
 refine⟨fun c33=> ?_,fun c33=> ?_⟩
 have f0:inr m.b0 m.l0 at_ n=false:=by simpa using c7
 have f1:inr m.b1 m.l1 at_ n=false:=by simpa using c10
 have f2:inr m.b2 m.l2 at_ n=true:=by simpa using c13
 have W:=Win.of f2 hat_ hb2 hl2 h1 h8
 refine⟨fun ds=>∃k:Nat,ds=[.z (numL ((winL m.b2 m.l2 at_ n).drop k)),.z ((k:Int)-1)]∧k≤n.toNat,fun ds=>(dI ds 1+1).toNat,⟨n.toNat,W.init,Nat.le_refl _⟩,?_⟩
 intro ρ5 ha5 _ hi5
 obtain⟨k,hds,hk⟩:=hi5
 simp only[List.cons.injEq,Dt.z.injEq,Dt.l.injEq,b2i_eq_iff,and_true] at hds
 obtain⟨k5_i17,k5_i18⟩:=hds
 have k5_i0:ρ5.i 0=_:=(ha5 0 (by decide)).1.symm.trans k4_i0
 have k5_l1:ρ5.l 1=_:=(ha5 1 (by decide)).2.2.symm.trans k4_l1
 have k5_b2:ρ5.b 2=_:=(ha5 2 (by decide)).2.1.symm.trans k4_b2
 have k5_i3:ρ5.i 3=_:=(ha5 3 (by decide)).1.symm.trans k4_i3
 have k5_l4:ρ5.l 4=_:=(ha5 4 (by decide)).2.2.symm.trans k4_l4
 have k5_b5:ρ5.b 5=_:=(ha5 5 (by decide)).2.1.symm.trans k4_b5
 have k5_i6:ρ5.i 6=_:=(ha5 6 (by decide)).1.symm.trans k4_i6
 have k5_l7:ρ5.l 7=_:=(ha5 7 (by decide)).2.2.symm.trans k4_l7
 have k5_b8:ρ5.b 8=_:=(ha5 8 (by decide)).2.1.symm.trans k4_b8
 have k5_i9:ρ5.i 9=_:=(ha5 9 (by decide)).1.symm.trans k4_i9
 have k5_l10:ρ5.l 10=_:=(ha5 10 (by decide)).2.2.symm.trans k4_l10
 have k5_b11:ρ5.b 11=_:=(ha5 11 (by decide)).2.1.symm.trans k4_b11
 have k5_i12:ρ5.i 12=_:=(ha5 12 (by decide)).1.symm.trans k4_i12
 have k5_i13:ρ5.i 13=_:=(ha5 13 (by decide)).1.symm.trans k4_i13
 simp only[k5_i0,k5_l1,k5_b2,k5_i3,k5_l4,k5_b5,k5_i6,k5_l7,k5_b8,k5_i9,k5_l10,k5_b11,k5_i12,k5_i13,k5_i17,k5_i18,W.sub,W.cv,W.add,W.win,-eq_self]
 refine⟨fun c34=> ?_,fun c34=> ?_⟩
 ·obtain rfl:k=0:=by have:=of_decide_eq_true c34; omega
  simp[rdV,rdE,Mem.reg,hs,f0,f1,f2]
 refine⟨fun c35=> ?_,fun c35=> ?_⟩
 refine⟨fun c36=> ?_,fun c36=> ?_⟩
 ·obtain⟨j,rfl⟩:∃j,k=j+1:=⟨k-1,by have:=of_decide_eq_false c34; omega⟩
  have w1:=W.lo; have w2:=W.hi; have w3:=W.len
  rw[show(((j+1:Nat):Int)-1)=(j:Int) by omega,(W.byte hl2 (by omega)).1] at c36
  exact absurd (of_decide_eq_true c36) (by omega)
 refine⟨fun c37=> ?_,fun c37=> ?_⟩
 ·obtain⟨j,rfl⟩:∃j,k=j+1:=⟨k-1,by have:=of_decide_eq_false c34; omega⟩
  exact W.next hl2 r2 hk
 ·obtain⟨j,rfl⟩:∃j,k=j+1:=⟨k-1,by have:=of_decide_eq_false c34; omega⟩
  have w1:=W.lo; have w2:=W.hi; have w3:=W.len
  rw[show(((j+1:Nat):Int)-1)=(j:Int) by omega,(W.byte hl2 (by omega)).1] at c37
  exact absurd (of_decide_eq_false c37) (by omega)
 ·have w1:=W.lo; have w2:=W.hi; have w3:=W.len
  exact absurd (of_decide_eq_false c35) (by omega)
 have f0:inr m.b0 m.l0 at_ n=false:=by simpa using c7
 have f1:inr m.b1 m.l1 at_ n=false:=by simpa using c10
 have f2:inr m.b2 m.l2 at_ n=true:=by simpa using c13
 have W:=Win.of f2 hat_ hb2 hl2 h1 h8
 refine⟨fun ds=>∃k:Nat,ds=[.z (numL ((winL m.b2 m.l2 at_ n).drop k)),.z ((k:Int)-1)]∧k≤n.toNat,fun ds=>(dI ds 1+1).toNat,⟨n.toNat,W.init,Nat.le_refl _⟩,?_⟩
 intro ρ5 ha5 _ hi5
 obtain⟨k,hds,hk⟩:=hi5
 simp only[List.cons.injEq,Dt.z.injEq,Dt.l.injEq,b2i_eq_iff,and_true] at hds
 obtain⟨k5_i17,k5_i18⟩:=hds
 have k5_i0:ρ5.i 0=_:=(ha5 0 (by decide)).1.symm.trans k4_i0
 have k5_l1:ρ5.l 1=_:=(ha5 1 (by decide)).2.2.symm.trans k4_l1
 have k5_b2:ρ5.b 2=_:=(ha5 2 (by decide)).2.1.symm.trans k4_b2
 have k5_i3:ρ5.i 3=_:=(ha5 3 (by decide)).1.symm.trans k4_i3
 have k5_l4:ρ5.l 4=_:=(ha5 4 (by decide)).2.2.symm.trans k4_l4
 have k5_b5:ρ5.b 5=_:=(ha5 5 (by decide)).2.1.symm.trans k4_b5
 have k5_i6:ρ5.i 6=_:=(ha5 6 (by decide)).1.symm.trans k4_i6
 have k5_l7:ρ5.l 7=_:=(ha5 7 (by decide)).2.2.symm.trans k4_l7
 have k5_b8:ρ5.b 8=_:=(ha5 8 (by decide)).2.1.symm.trans k4_b8
 have k5_i9:ρ5.i 9=_:=(ha5 9 (by decide)).1.symm.trans k4_i9
 have k5_l10:ρ5.l 10=_:=(ha5 10 (by decide)).2.2.symm.trans k4_l10
 have k5_b11:ρ5.b 11=_:=(ha5 11 (by decide)).2.1.symm.trans k4_b11
 have k5_i12:ρ5.i 12=_:=(ha5 12 (by decide)).1.symm.trans k4_i12
 have k5_i13:ρ5.i 13=_:=(ha5 13 (by decide)).1.symm.trans k4_i13
 simp only[k5_i0,k5_l1,k5_b2,k5_i3,k5_l4,k5_b5,k5_i6,k5_l7,k5_b8,k5_i9,k5_l10,k5_b11,k5_i12,k5_i13,k5_i17,k5_i18,W.sub,W.cv,W.add,W.win,-eq_self]
 refine⟨fun c38=> ?_,fun c38=> ?_⟩
 ·obtain rfl:k=0:=by have:=of_decide_eq_true c38; omega
  simp[rdV,rdE,Mem.reg,hs,f0,f1,f2]
 refine⟨fun c39=> ?_,fun c39=> ?_⟩
 refine⟨fun c40=> ?_,fun c40=> ?_⟩
 ·obtain⟨j,rfl⟩:∃j,k=j+1:=⟨k-1,by have:=of_decide_eq_false c38; omega⟩
  have w1:=W.lo; have w2:=W.hi; have w3:=W.len
  rw[show(((j+1:Nat):Int)-1)=(j:Int) by omega,(W.byte hl2 (by omega)).1] at c40
  exact absurd (of_decide_eq_true c40) (by omega)
 refine⟨fun c41=> ?_,fun c41=> ?_⟩
 ·obtain⟨j,rfl⟩:∃j,k=j+1:=⟨k-1,by have:=of_decide_eq_false c38; omega⟩
  exact W.next hl2 r2 hk
 ·obtain⟨j,rfl⟩:∃j,k=j+1:=⟨k-1,by have:=of_decide_eq_false c38; omega⟩
  have w1:=W.lo; have w2:=W.hi; have w3:=W.len
  rw[show(((j+1:Nat):Int)-1)=(j:Int) by omega,(W.byte hl2 (by omega)).1] at c41
  exact absurd (of_decide_eq_false c41) (by omega)
 ·have w1:=W.lo; have w2:=W.hi; have w3:=W.len
  exact absurd (of_decide_eq_false c39) (by omega)
 refine⟨fun c42=> ?_,fun c42=> ?_⟩
 ·have f0:inr m.b0 m.l0 at_ n=false:=by simpa using c7
  have f1:inr m.b1 m.l1 at_ n=true:=by simpa using c10
  have W:=Win.of f1 hat_ hb1 hl1 h1 h8
  have w1:=W.lo; have w2:=W.hi; have w3:=W.len
  simp only[W.sub,W.cv,W.add] at c42
  exact absurd (of_decide_eq_true c42) (by omega)
 refine⟨fun c43=> ?_,fun c43=> ?_⟩
 ·have f0:inr m.b0 m.l0 at_ n=false:=by simpa using c7
  have f1:inr m.b1 m.l1 at_ n=true:=by simpa using c10
  have W:=Win.of f1 hat_ hb1 hl1 h1 h8
  have w1:=W.lo; have w2:=W.hi; have w3:=W.len
  simp only[W.sub,W.cv,W.add] at c43
  exact absurd (of_decide_eq_true c43) (by omega)
 refine⟨fun c44=> ?_,fun c44=> ?_⟩
 ·have f0:inr m.b0 m.l0 at_ n=false:=by simpa using c7
  have f1:inr m.b1 m.l1 at_ n=true:=by simpa using c10
  have W:=Win.of f1 hat_ hb1 hl1 h1 h8
  have w1:=W.lo; have w2:=W.hi; have w3:=W.len
  simp only[W.sub,W.cv,W.add] at c44
  exact absurd (of_decide_eq_true c44) (by omega)
 refine⟨fun c45=> ?_,fun c45=> ?_⟩
 have f0:inr m.b0 m.l0 at_ n=false:=by simpa using c7
 have f1:inr m.b1 m.l1 at_ n=true:=by simpa using c10
 have W:=Win.of f1 hat_ hb1 hl1 h1 h8
 refine⟨fun ds=>∃k:Nat,ds=[.z (numL ((winL m.b1 m.l1 at_ n).drop k)),.z ((k:Int)-1)]∧k≤n.toNat,fun ds=>(dI ds 1+1).toNat,⟨n.toNat,W.init,Nat.le_refl _⟩,?_⟩
 intro ρ4 ha4 _ hi4
 obtain⟨k,hds,hk⟩:=hi4
 simp only[List.cons.injEq,Dt.z.injEq,Dt.l.injEq,b2i_eq_iff,and_true] at hds
 obtain⟨k4_i16,k4_i17⟩:=hds
 have k4_i0:ρ4.i 0=_:=(ha4 0 (by decide)).1.symm.trans k3_i0
 have k4_l1:ρ4.l 1=_:=(ha4 1 (by decide)).2.2.symm.trans k3_l1
 have k4_b2:ρ4.b 2=_:=(ha4 2 (by decide)).2.1.symm.trans k3_b2
 have k4_i3:ρ4.i 3=_:=(ha4 3 (by decide)).1.symm.trans k3_i3
 have k4_l4:ρ4.l 4=_:=(ha4 4 (by decide)).2.2.symm.trans k3_l4
 have k4_b5:ρ4.b 5=_:=(ha4 5 (by decide)).2.1.symm.trans k3_b5
 have k4_i6:ρ4.i 6=_:=(ha4 6 (by decide)).1.symm.trans k3_i6
 have k4_l7:ρ4.l 7=_:=(ha4 7 (by decide)).2.2.symm.trans k3_l7
 have k4_b8:ρ4.b 8=_:=(ha4 8 (by decide)).2.1.symm.trans k3_b8
 have k4_i9:ρ4.i 9=_:=(ha4 9 (by decide)).1.symm.trans k3_i9
 have k4_l10:ρ4.l 10=_:=(ha4 10 (by decide)).2.2.symm.trans k3_l10
 have k4_b11:ρ4.b 11=_:=(ha4 11 (by decide)).2.1.symm.trans k3_b11
 have k4_i12:ρ4.i 12=_:=(ha4 12 (by decide)).1.symm.trans k3_i12
 have k4_i13:ρ4.i 13=_:=(ha4 13 (by decide)).1.symm.trans k3_i13
 simp only[k4_i0,k4_l1,k4_b2,k4_i3,k4_l4,k4_b5,k4_i6,k4_l7,k4_b8,k4_i9,k4_l10,k4_b11,k4_i12,k4_i13,k4_i16,k4_i17,W.sub,W.cv,W.add,W.win,-eq_self]
 refine⟨fun c46=> ?_,fun c46=> ?_⟩
 ·obtain rfl:k=0:=by have:=of_decide_eq_true c46; omega
  simp[rdV,rdE,Mem.reg,hs,f0,f1]
 refine⟨fun c47=> ?_,fun c47=> ?_⟩
 refine⟨fun c48=> ?_,fun c48=> ?_⟩
 ·obtain⟨j,rfl⟩:∃j,k=j+1:=⟨k-1,by have:=of_decide_eq_false c46; omega⟩
  have w1:=W.lo; have w2:=W.hi; have w3:=W.len
  rw[show(((j+1:Nat):Int)-1)=(j:Int) by omega,(W.byte hl1 (by omega)).1] at c48
  exact absurd (of_decide_eq_true c48) (by omega)
 refine⟨fun c49=> ?_,fun c49=> ?_⟩
 ·obtain⟨j,rfl⟩:∃j,k=j+1:=⟨k-1,by have:=of_decide_eq_false c46; omega⟩
  exact W.next hl1 r1 hk
 ·obtain⟨j,rfl⟩:∃j,k=j+1:=⟨k-1,by have:=of_decide_eq_false c46; omega⟩
  have w1:=W.lo; have w2:=W.hi; have w3:=W.len
  rw[show(((j+1:Nat):Int)-1)=(j:Int) by omega,(W.byte hl1 (by omega)).1] at c49
  exact absurd (of_decide_eq_false c49) (by omega)
 ·have w1:=W.lo; have w2:=W.hi; have w3:=W.len
  exact absurd (of_decide_eq_false c47) (by omega)
 have f0:inr m.b0 m.l0 at_ n=false:=by simpa using c7
 have f1:inr m.b1 m.l1 at_ n=true:=by simpa using c10
 have W:=Win.of f1 hat_ hb1 hl1 h1 h8
 refine⟨fun ds=>∃k:Nat,ds=[.z (numL ((winL m.b1 m.l1 at_ n).drop k)),.z ((k:Int)-1)]∧k≤n.toNat,fun ds=>(dI ds 1+1).toNat,⟨n.toNat,W.init,Nat.le_refl _⟩,?_⟩
 intro ρ4 ha4 _ hi4
 obtain⟨k,hds,hk⟩:=hi4
 simp only[List.cons.injEq,Dt.z.injEq,Dt.l.injEq,b2i_eq_iff,and_true] at hds
 obtain⟨k4_i16,k4_i17⟩:=hds
 have k4_i0:ρ4.i 0=_:=(ha4 0 (by decide)).1.symm.trans k3_i0
 have k4_l1:ρ4.l 1=_:=(ha4 1 (by decide)).2.2.symm.trans k3_l1
 have k4_b2:ρ4.b 2=_:=(ha4 2 (by decide)).2.1.symm.trans k3_b2
 have k4_i3:ρ4.i 3=_:=(ha4 3 (by decide)).1.symm.trans k3_i3
 have k4_l4:ρ4.l 4=_:=(ha4 4 (by decide)).2.2.symm.trans k3_l4
 have k4_b5:ρ4.b 5=_:=(ha4 5 (by decide)).2.1.symm.trans k3_b5
 have k4_i6:ρ4.i 6=_:=(ha4 6 (by decide)).1.symm.trans k3_i6
 have k4_l7:ρ4.l 7=_:=(ha4 7 (by decide)).2.2.symm.trans k3_l7
 have k4_b8:ρ4.b 8=_:=(ha4 8 (by decide)).2.1.symm.trans k3_b8
 have k4_i9:ρ4.i 9=_:=(ha4 9 (by decide)).1.symm.trans k3_i9
 have k4_l10:ρ4.l 10=_:=(ha4 10 (by decide)).2.2.symm.trans k3_l10
 have k4_b11:ρ4.b 11=_:=(ha4 11 (by decide)).2.1.symm.trans k3_b11
 have k4_i12:ρ4.i 12=_:=(ha4 12 (by decide)).1.symm.trans k3_i12
 have k4_i13:ρ4.i 13=_:=(ha4 13 (by decide)).1.symm.trans k3_i13
 simp only[k4_i0,k4_l1,k4_b2,k4_i3,k4_l4,k4_b5,k4_i6,k4_l7,k4_b8,k4_i9,k4_l10,k4_b11,k4_i12,k4_i13,k4_i16,k4_i17,W.sub,W.cv,W.add,W.win,-eq_self]
 refine⟨fun c50=> ?_,fun c50=> ?_⟩
 ·obtain rfl:k=0:=by have:=of_decide_eq_true c50; omega
  simp[rdV,rdE,Mem.reg,hs,f0,f1]
 refine⟨fun c51=> ?_,fun c51=> ?_⟩
 refine⟨fun c52=> ?_,fun c52=> ?_⟩
 ·obtain⟨j,rfl⟩:∃j,k=j+1:=⟨k-1,by have:=of_decide_eq_false c50; omega⟩
  have w1:=W.lo; have w2:=W.hi; have w3:=W.len
  rw[show(((j+1:Nat):Int)-1)=(j:Int) by omega,(W.byte hl1 (by omega)).1] at c52
  exact absurd (of_decide_eq_true c52) (by omega)
 refine⟨fun c53=> ?_,fun c53=> ?_⟩
 ·obtain⟨j,rfl⟩:∃j,k=j+1:=⟨k-1,by have:=of_decide_eq_false c50; omega⟩
  exact W.next hl1 r1 hk
 ·obtain⟨j,rfl⟩:∃j,k=j+1:=⟨k-1,by have:=of_decide_eq_false c50; omega⟩
  have w1:=W.lo; have w2:=W.hi; have w3:=W.len
  rw[show(((j+1:Nat):Int)-1)=(j:Int) by omega,(W.byte hl1 (by omega)).1] at c53
  exact absurd (of_decide_eq_false c53) (by omega)
 ·have w1:=W.lo; have w2:=W.hi; have w3:=W.len
  exact absurd (of_decide_eq_false c51) (by omega)
 refine⟨fun c54=> ?_,fun c54=> ?_⟩
 ·have f0:inr m.b0 m.l0 at_ n=true:=by simpa using c7
  have W:=Win.of f0 hat_ hb0 hl0 h1 h8
  have w1:=W.lo; have w2:=W.hi; have w3:=W.len
  simp only[W.sub,W.cv,W.add] at c54
  exact absurd (of_decide_eq_true c54) (by omega)
 refine⟨fun c55=> ?_,fun c55=> ?_⟩
 ·have f0:inr m.b0 m.l0 at_ n=true:=by simpa using c7
  have W:=Win.of f0 hat_ hb0 hl0 h1 h8
  have w1:=W.lo; have w2:=W.hi; have w3:=W.len
  simp only[W.sub,W.cv,W.add] at c55
  exact absurd (of_decide_eq_true c55) (by omega)
 refine⟨fun c56=> ?_,fun c56=> ?_⟩
 ·have f0:inr m.b0 m.l0 at_ n=true:=by simpa using c7
  have W:=Win.of f0 hat_ hb0 hl0 h1 h8
  have w1:=W.lo; have w2:=W.hi; have w3:=W.len
  simp only[W.sub,W.cv,W.add] at c56
  exact absurd (of_decide_eq_true c56) (by omega)
 refine⟨fun c57=> ?_,fun c57=> ?_⟩
 have f0:inr m.b0 m.l0 at_ n=true:=by simpa using c7
 have W:=Win.of f0 hat_ hb0 hl0 h1 h8
 refine⟨fun ds=>∃k:Nat,ds=[.z (numL ((winL m.b0 m.l0 at_ n).drop k)),.z ((k:Int)-1)]∧k≤n.toNat,fun ds=>(dI ds 1+1).toNat,⟨n.toNat,W.init,Nat.le_refl _⟩,?_⟩
 intro ρ3 ha3 _ hi3
 obtain⟨k,hds,hk⟩:=hi3
 simp only[List.cons.injEq,Dt.z.injEq,Dt.l.injEq,b2i_eq_iff,and_true] at hds
 obtain⟨k3_i15,k3_i16⟩:=hds
 have k3_i0:ρ3.i 0=_:=(ha3 0 (by decide)).1.symm.trans k2_i0
 have k3_l1:ρ3.l 1=_:=(ha3 1 (by decide)).2.2.symm.trans k2_l1
 have k3_b2:ρ3.b 2=_:=(ha3 2 (by decide)).2.1.symm.trans k2_b2
 have k3_i3:ρ3.i 3=_:=(ha3 3 (by decide)).1.symm.trans k2_i3
 have k3_l4:ρ3.l 4=_:=(ha3 4 (by decide)).2.2.symm.trans k2_l4
 have k3_b5:ρ3.b 5=_:=(ha3 5 (by decide)).2.1.symm.trans k2_b5
 have k3_i6:ρ3.i 6=_:=(ha3 6 (by decide)).1.symm.trans k2_i6
 have k3_l7:ρ3.l 7=_:=(ha3 7 (by decide)).2.2.symm.trans k2_l7
 have k3_b8:ρ3.b 8=_:=(ha3 8 (by decide)).2.1.symm.trans k2_b8
 have k3_i9:ρ3.i 9=_:=(ha3 9 (by decide)).1.symm.trans k2_i9
 have k3_l10:ρ3.l 10=_:=(ha3 10 (by decide)).2.2.symm.trans k2_l10
 have k3_b11:ρ3.b 11=_:=(ha3 11 (by decide)).2.1.symm.trans k2_b11
 have k3_i12:ρ3.i 12=_:=(ha3 12 (by decide)).1.symm.trans k2_i12
 have k3_i13:ρ3.i 13=_:=(ha3 13 (by decide)).1.symm.trans k2_i13
 simp only[k3_i0,k3_l1,k3_b2,k3_i3,k3_l4,k3_b5,k3_i6,k3_l7,k3_b8,k3_i9,k3_l10,k3_b11,k3_i12,k3_i13,k3_i15,k3_i16,W.sub,W.cv,W.add,W.win,-eq_self]
 refine⟨fun c58=> ?_,fun c58=> ?_⟩
 ·obtain rfl:k=0:=by have:=of_decide_eq_true c58; omega
  simp[rdV,rdE,Mem.reg,hs,f0]
 refine⟨fun c59=> ?_,fun c59=> ?_⟩
 refine⟨fun c60=> ?_,fun c60=> ?_⟩
 ·obtain⟨j,rfl⟩:∃j,k=j+1:=⟨k-1,by have:=of_decide_eq_false c58; omega⟩
  have w1:=W.lo; have w2:=W.hi; have w3:=W.len
  rw[show(((j+1:Nat):Int)-1)=(j:Int) by omega,(W.byte hl0 (by omega)).1] at c60
  exact absurd (of_decide_eq_true c60) (by omega)
 refine⟨fun c61=> ?_,fun c61=> ?_⟩
 ·obtain⟨j,rfl⟩:∃j,k=j+1:=⟨k-1,by have:=of_decide_eq_false c58; omega⟩
  exact W.next hl0 r0 hk
 ·obtain⟨j,rfl⟩:∃j,k=j+1:=⟨k-1,by have:=of_decide_eq_false c58; omega⟩
  have w1:=W.lo; have w2:=W.hi; have w3:=W.len
  rw[show(((j+1:Nat):Int)-1)=(j:Int) by omega,(W.byte hl0 (by omega)).1] at c61
  exact absurd (of_decide_eq_false c61) (by omega)
 ·have w1:=W.lo; have w2:=W.hi; have w3:=W.len
  exact absurd (of_decide_eq_false c59) (by omega)
 have f0:inr m.b0 m.l0 at_ n=true:=by simpa using c7
 have W:=Win.of f0 hat_ hb0 hl0 h1 h8
 refine⟨fun ds=>∃k:Nat,ds=[.z (numL ((winL m.b0 m.l0 at_ n).drop k)),.z ((k:Int)-1)]∧k≤n.toNat,fun ds=>(dI ds 1+1).toNat,⟨n.toNat,W.init,Nat.le_refl _⟩,?_⟩
 intro ρ3 ha3 _ hi3
 obtain⟨k,hds,hk⟩:=hi3
 simp only[List.cons.injEq,Dt.z.injEq,Dt.l.injEq,b2i_eq_iff,and_true] at hds
 obtain⟨k3_i15,k3_i16⟩:=hds
 have k3_i0:ρ3.i 0=_:=(ha3 0 (by decide)).1.symm.trans k2_i0
 have k3_l1:ρ3.l 1=_:=(ha3 1 (by decide)).2.2.symm.trans k2_l1
 have k3_b2:ρ3.b 2=_:=(ha3 2 (by decide)).2.1.symm.trans k2_b2
 have k3_i3:ρ3.i 3=_:=(ha3 3 (by decide)).1.symm.trans k2_i3
 have k3_l4:ρ3.l 4=_:=(ha3 4 (by decide)).2.2.symm.trans k2_l4
 have k3_b5:ρ3.b 5=_:=(ha3 5 (by decide)).2.1.symm.trans k2_b5
 have k3_i6:ρ3.i 6=_:=(ha3 6 (by decide)).1.symm.trans k2_i6
 have k3_l7:ρ3.l 7=_:=(ha3 7 (by decide)).2.2.symm.trans k2_l7
 have k3_b8:ρ3.b 8=_:=(ha3 8 (by decide)).2.1.symm.trans k2_b8
 have k3_i9:ρ3.i 9=_:=(ha3 9 (by decide)).1.symm.trans k2_i9
 have k3_l10:ρ3.l 10=_:=(ha3 10 (by decide)).2.2.symm.trans k2_l10
 have k3_b11:ρ3.b 11=_:=(ha3 11 (by decide)).2.1.symm.trans k2_b11
 have k3_i12:ρ3.i 12=_:=(ha3 12 (by decide)).1.symm.trans k2_i12
 have k3_i13:ρ3.i 13=_:=(ha3 13 (by decide)).1.symm.trans k2_i13
 simp only[k3_i0,k3_l1,k3_b2,k3_i3,k3_l4,k3_b5,k3_i6,k3_l7,k3_b8,k3_i9,k3_l10,k3_b11,k3_i12,k3_i13,k3_i15,k3_i16,W.sub,W.cv,W.add,W.win,-eq_self]
 refine⟨fun c62=> ?_,fun c62=> ?_⟩
 ·obtain rfl:k=0:=by have:=of_decide_eq_true c62; omega
  simp[rdV,rdE,Mem.reg,hs,f0]
 refine⟨fun c63=> ?_,fun c63=> ?_⟩
 refine⟨fun c64=> ?_,fun c64=> ?_⟩
 ·obtain⟨j,rfl⟩:∃j,k=j+1:=⟨k-1,by have:=of_decide_eq_false c62; omega⟩
  have w1:=W.lo; have w2:=W.hi; have w3:=W.len
  rw[show(((j+1:Nat):Int)-1)=(j:Int) by omega,(W.byte hl0 (by omega)).1] at c64
  exact absurd (of_decide_eq_true c64) (by omega)
 refine⟨fun c65=> ?_,fun c65=> ?_⟩
 ·obtain⟨j,rfl⟩:∃j,k=j+1:=⟨k-1,by have:=of_decide_eq_false c62; omega⟩
  exact W.next hl0 r0 hk
 ·obtain⟨j,rfl⟩:∃j,k=j+1:=⟨k-1,by have:=of_decide_eq_false c62; omega⟩
  have w1:=W.lo; have w2:=W.hi; have w3:=W.len
  rw[show(((j+1:Nat):Int)-1)=(j:Int) by omega,(W.byte hl0 (by omega)).1] at c65
  exact absurd (of_decide_eq_false c65) (by omega)
 ·have w1:=W.lo; have w2:=W.hi; have w3:=W.len
  exact absurd (of_decide_eq_false c63) (by omega)
theorem qM {sp:Spec} {key:Nat} (hF:sp.F key=dg) (hP:sp.pre key=cH):SmOk Try.prog sp (iP key):=
 aS (s:=iP key) hF hP (by kernel_rfl) tV (sm0) Try.func75 (fnc Try.func88 (fnc Try.func105 fn0)) yj (.inr (.inl ⟨(fun xs h L hL=>by unfold cH at h; split at h<;>first | exact h.elim | (simp at hL; rcases hL with rfl | rfl | rfl | rfl; exact Nat.le_trans h.l0 (by decide); exact Nat.le_trans h.l1 (by decide); exact Nat.le_trans (Nat.le_of_eq h.l2) (by decide); exact Nat.le_trans h.l3 (by decide))),rfl⟩)) (fun x0 gx0 x1 gx1 x2 x3 gx3 x4 gx4 x5 x6 gx6 x7 gx7 x8 x9 gx9 x10 gx10 x11 x12 gx12 x13 gx13 hp ρ g=>yb ⟨x0,x1,x2,x3,x4,x5,x6,x7,x8,x9,x10,x11⟩ ⟨gx0,gx1,gx3,gx4,gx6,gx7,gx9,gx10⟩ x12 gx12 x13 gx13 hp ρ g)
end Go.Proofs.Ytghiofgomcihcaa
