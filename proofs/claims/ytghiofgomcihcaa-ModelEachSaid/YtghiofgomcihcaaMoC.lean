import Derived.Test.YtghiofgomcihcaaMoB
import Derived.Test.YtghiofgomcihcaaMoD
import Derived.Test.YtghiofgomcihcaaProg
import Derived.Laws.Externs
set_option linter.unusedVariables false
set_option linter.unusedSimpArgs false
namespace Go.Proofs.Ytghiofgomcihcaa
open Go.RowKit Go.ChangeShapes Go.WideShapes
theorem Out.eta (a:Out):(⟨a.kind,a.r0,a.ctx,a.tr,a.left⟩:Out)=a:=rfl
def Out.ok (a:Out):Prop:=inK .i8 a.kind=true∧inK .u64 a.r0=true∧RowsIn [some .u8] a.ctx∧RowsIn [some .i64,some .u64,some .i64,some .u64,some .u64,some .u64,some .u64,some .u64] a.tr∧inK .i64 a.left=true
def kOut:List CK:=[.int .i8,.int .u64,.sl [some .u8] 5,.sl [some .i64,some .u64,some .i64,some .u64,some .u64,some .u64,some .u64,some .u64] 39,.int .i64]
def tys_MoC:List (Nat×TI):=[(3,⟨false,1,[.int .i64 (.lit 0)],[],none,some .i64,false,false,none,8,false,none,false,0⟩),
 (4,⟨false,1,[.bool (.tt false)],[],none,none,false,true,none,1,false,none,false,0⟩),
 (5,⟨false,1,[.int .u8 (.lit 0)],[],none,some .u8,false,false,none,1,false,none,false,0⟩),
 (22,⟨false,1,[.nsl],[],none,none,false,false,some 44,24,false,none,false,0⟩),
 (24,⟨true,2,[.int .i64 (.lit 0),.nsl],[(0,3),(1,22)],none,none,false,false,none,32,false,none,false,0⟩),
 (25,⟨false,1,[.nsl],[],none,none,false,false,some 5,24,false,none,false,0⟩),
 (26,⟨false,1,[.nsl],[],none,none,false,false,some 30,24,false,none,false,0⟩),
 (29,⟨false,1,[.int .i8 (.lit 0)],[],none,some .i8,false,false,none,1,false,none,false,0⟩),
 (30,⟨false,1,[.int .u64 (.lit 0)],[],none,some .u64,false,false,none,8,false,none,false,0⟩),
 (31,⟨false,1,[.nsl],[],none,none,false,false,some 39,24,false,none,false,0⟩),
 (33,⟨true,5,[.int .i8 (.lit 0),.int .u64 (.lit 0),.nsl,.nsl,.int .i64 (.lit 0)],[(0,29),(1,30),(2,25),(3,31),(4,3)],none,none,false,false,none,72,false,none,false,0⟩),
 (34,⟨false,1,[.int .i64 (.lit 0)],[],none,some .i64,false,false,none,8,false,none,false,0⟩),
 (39,⟨true,3,[.int .i64 (.lit 0),.nsl,.int .u64 (.lit 0)],[(0,3),(1,26),(2,30)],none,none,false,false,none,40,false,none,false,0⟩),
 (44,⟨true,9,[.int .i8 (.lit 0),.int .i8 (.lit 0),.int .i8 (.lit 0),.int .i8 (.lit 0),.bool (.tt false),.int .i8 (.lit 0),.int .i8 (.lit 0),.int .i64 (.lit 0),.int .i64 (.lit 0)],[(0,29),(1,29),(2,29),(3,29),(4,4),(5,29),(6,29),(7,3),(8,3)],none,none,true,false,none,24,false,none,false,0⟩),
 (53,⟨true,11,[.int .u64 (.lit 0),.int .u64 (.lit 0),.int .u64 (.lit 0),.int .u64 (.lit 0),.int .u64 (.lit 0),.int .u64 (.lit 0),.int .u64 (.lit 0),.int .u64 (.lit 0),.int .u64 (.lit 0),.int .u64 (.lit 0),.int .u64 (.lit 0)],[],some (11,30),none,false,false,none,88,false,none,false,0⟩),
 (54,⟨true,64,[.int .u8 (.lit 0),.int .u8 (.lit 0),.int .u8 (.lit 0),.int .u8 (.lit 0),.int .u8 (.lit 0),.int .u8 (.lit 0),.int .u8 (.lit 0),.int .u8 (.lit 0),.int .u8 (.lit 0),.int .u8 (.lit 0),.int .u8 (.lit 0),.int .u8 (.lit 0),.int .u8 (.lit 0),.int .u8 (.lit 0),.int .u8 (.lit 0),.int .u8 (.lit 0),.int .u8 (.lit 0),.int .u8 (.lit 0),.int .u8 (.lit 0),.int .u8 (.lit 0),.int .u8 (.lit 0),.int .u8 (.lit 0),.int .u8 (.lit 0),.int .u8 (.lit 0),.int .u8 (.lit 0),.int .u8 (.lit 0),.int .u8 (.lit 0),.int .u8 (.lit 0),.int .u8 (.lit 0),.int .u8 (.lit 0),.int .u8 (.lit 0),.int .u8 (.lit 0),.int .u8 (.lit 0),.int .u8 (.lit 0),.int .u8 (.lit 0),.int .u8 (.lit 0),.int .u8 (.lit 0),.int .u8 (.lit 0),.int .u8 (.lit 0),.int .u8 (.lit 0),.int .u8 (.lit 0),.int .u8 (.lit 0),.int .u8 (.lit 0),.int .u8 (.lit 0),.int .u8 (.lit 0),.int .u8 (.lit 0),.int .u8 (.lit 0),.int .u8 (.lit 0),.int .u8 (.lit 0),.int .u8 (.lit 0),.int .u8 (.lit 0),.int .u8 (.lit 0),.int .u8 (.lit 0),.int .u8 (.lit 0),.int .u8 (.lit 0),.int .u8 (.lit 0),.int .u8 (.lit 0),.int .u8 (.lit 0),.int .u8 (.lit 0),.int .u8 (.lit 0),.int .u8 (.lit 0),.int .u8 (.lit 0),.int .u8 (.lit 0),.int .u8 (.lit 0)],[],some (64,5),none,false,false,none,64,false,none,false,0⟩),
 (56,⟨true,76,[.int .u64 (.lit 0),.int .u64 (.lit 0),.int .u64 (.lit 0),.int .u64 (.lit 0),.int .u64 (.lit 0),.int .u64 (.lit 0),.int .u64 (.lit 0),.int .u64 (.lit 0),.int .u64 (.lit 0),.int .u64 (.lit 0),.int .u64 (.lit 0),.int .i64 (.lit 0),.int .u8 (.lit 0),.int .u8 (.lit 0),.int .u8 (.lit 0),.int .u8 (.lit 0),.int .u8 (.lit 0),.int .u8 (.lit 0),.int .u8 (.lit 0),.int .u8 (.lit 0),.int .u8 (.lit 0),.int .u8 (.lit 0),.int .u8 (.lit 0),.int .u8 (.lit 0),.int .u8 (.lit 0),.int .u8 (.lit 0),.int .u8 (.lit 0),.int .u8 (.lit 0),.int .u8 (.lit 0),.int .u8 (.lit 0),.int .u8 (.lit 0),.int .u8 (.lit 0),.int .u8 (.lit 0),.int .u8 (.lit 0),.int .u8 (.lit 0),.int .u8 (.lit 0),.int .u8 (.lit 0),.int .u8 (.lit 0),.int .u8 (.lit 0),.int .u8 (.lit 0),.int .u8 (.lit 0),.int .u8 (.lit 0),.int .u8 (.lit 0),.int .u8 (.lit 0),.int .u8 (.lit 0),.int .u8 (.lit 0),.int .u8 (.lit 0),.int .u8 (.lit 0),.int .u8 (.lit 0),.int .u8 (.lit 0),.int .u8 (.lit 0),.int .u8 (.lit 0),.int .u8 (.lit 0),.int .u8 (.lit 0),.int .u8 (.lit 0),.int .u8 (.lit 0),.int .u8 (.lit 0),.int .u8 (.lit 0),.int .u8 (.lit 0),.int .u8 (.lit 0),.int .u8 (.lit 0),.int .u8 (.lit 0),.int .u8 (.lit 0),.int .u8 (.lit 0),.int .u8 (.lit 0),.int .u8 (.lit 0),.int .u8 (.lit 0),.int .u8 (.lit 0),.int .u8 (.lit 0),.int .u8 (.lit 0),.int .u8 (.lit 0),.int .u8 (.lit 0),.int .u8 (.lit 0),.int .u8 (.lit 0),.int .u8 (.lit 0),.int .u8 (.lit 0)],[(0,53),(11,3),(12,54)],none,none,false,false,none,160,false,none,false,0⟩),
 (62,⟨false,1,[.nilp],[],none,none,false,false,none,8,false,none,false,1⟩),
 (66,⟨false,1,[.nilp],[],none,none,false,false,none,8,false,none,false,1⟩),
 (67,⟨false,1,[.nilp],[],none,none,false,false,none,8,false,none,false,1⟩),
 (69,⟨true,84,[.int .i64 (.lit 0),.nsl,.nilp,.int .u64 (.lit 0),.int .u64 (.lit 0),.int .u64 (.lit 0),.int .u64 (.lit 0),.int .u64 (.lit 0),.int .u64 (.lit 0),.int .u64 (.lit 0),.int .u64 (.lit 0),.int .u64 (.lit 0),.int .u64 (.lit 0),.int .u64 (.lit 0),.int .i64 (.lit 0),.int .u8 (.lit 0),.int .u8 (.lit 0),.int .u8 (.lit 0),.int .u8 (.lit 0),.int .u8 (.lit 0),.int .u8 (.lit 0),.int .u8 (.lit 0),.int .u8 (.lit 0),.int .u8 (.lit 0),.int .u8 (.lit 0),.int .u8 (.lit 0),.int .u8 (.lit 0),.int .u8 (.lit 0),.int .u8 (.lit 0),.int .u8 (.lit 0),.int .u8 (.lit 0),.int .u8 (.lit 0),.int .u8 (.lit 0),.int .u8 (.lit 0),.int .u8 (.lit 0),.int .u8 (.lit 0),.int .u8 (.lit 0),.int .u8 (.lit 0),.int .u8 (.lit 0),.int .u8 (.lit 0),.int .u8 (.lit 0),.int .u8 (.lit 0),.int .u8 (.lit 0),.int .u8 (.lit 0),.int .u8 (.lit 0),.int .u8 (.lit 0),.int .u8 (.lit 0),.int .u8 (.lit 0),.int .u8 (.lit 0),.int .u8 (.lit 0),.int .u8 (.lit 0),.int .u8 (.lit 0),.int .u8 (.lit 0),.int .u8 (.lit 0),.int .u8 (.lit 0),.int .u8 (.lit 0),.int .u8 (.lit 0),.int .u8 (.lit 0),.int .u8 (.lit 0),.int .u8 (.lit 0),.int .u8 (.lit 0),.int .u8 (.lit 0),.int .u8 (.lit 0),.int .u8 (.lit 0),.int .u8 (.lit 0),.int .u8 (.lit 0),.int .u8 (.lit 0),.int .u8 (.lit 0),.int .u8 (.lit 0),.int .u8 (.lit 0),.int .u8 (.lit 0),.int .u8 (.lit 0),.int .u8 (.lit 0),.int .u8 (.lit 0),.int .u8 (.lit 0),.int .u8 (.lit 0),.int .u8 (.lit 0),.int .u8 (.lit 0),.int .u8 (.lit 0),.int .i64 (.lit 0),.int .i64 (.lit 0),.nsl,.nsl,.int .i8 (.lit 0)],[(0,24),(2,67),(3,56),(79,3),(80,3),(81,26),(82,31),(83,29)],none,none,false,false,none,272,false,none,false,0⟩),
 (81,⟨false,1,[.nilf],[],none,none,false,false,none,8,true,none,false,0⟩),
 (106,⟨true,3,[.int .u64 (.lit 0),.nsl,.bool (.tt false)],[(0,30),(1,25),(2,4)],none,none,false,false,none,40,false,none,false,0⟩),
 (107,⟨true,12,[.int .u64 (.lit 0),.nsl,.bool (.tt false),.int .u64 (.lit 0),.nsl,.bool (.tt false),.int .u64 (.lit 0),.nsl,.bool (.tt false),.int .u64 (.lit 0),.nsl,.bool (.tt false)],[],some (4,106),none,false,false,none,160,false,none,false,0⟩),
 (109,⟨true,12,[.int .u64 (.lit 0),.nsl,.bool (.tt false),.int .u64 (.lit 0),.nsl,.bool (.tt false),.int .u64 (.lit 0),.nsl,.bool (.tt false),.int .u64 (.lit 0),.nsl,.bool (.tt false)],[(0,107)],none,none,false,false,none,160,false,none,false,0⟩),
 (111,⟨true,7,[.nilf,.nilf,.nilf,.nilf,.nilf,.nilf,.nilf],[],some (7,81),none,false,false,none,56,false,none,false,0⟩)]
set_option maxRecDepth 100000 in
theorem ul:(tys_MoC.all fun p=>ckTI Try.prog p.1 p.2)=true:=by kernel_rfl
theorem nc:(tys_MoC.all fun p=>!p.2.eqok||((Nat.beq p.1 44&&bv p.2.zero iF)))=true:=by kernel_rfl
theorem ub:(tys_MoC.all fun p=>!p.2.keyok)=true:=by kernel_rfl
theorem tU:∀t i,(t,i)∈tys_MoC→TIok Try.prog t i:=by
 intro t i h
 refine cQ (eY (f:=ckTI Try.prog) ul h) (fun he=> ?_) (fun he=> ?_) (fun he=> ?_)
 ·have h1:=List.all_eq_true.1 nc (t,i) h
  simp only[he,Bool.not_true,Bool.false_or,Bool.or_eq_true,Bool.and_eq_true] at h1
  have hs:=h1.2
  obtain rfl:=Nat.eq_of_beq_eq_true h1.1
  exact fun vs us hv hu=>iA vs us (aB hs hv) (aB hs hu)
 ·have h1:=List.all_eq_true.1 nc (t,i) h
  simp only[he,Bool.not_true,Bool.false_or,Bool.or_eq_true,Bool.and_eq_true] at h1
  have hs:=h1.2
  obtain rfl:=Nat.eq_of_beq_eq_true h1.1
  exact ek
 ·have h1:=List.all_eq_true.1 ub (t,i) h
  simp[he] at h1
def pk (key:Nat):Sm:=⟨11,key,[.agg kD,.one (.sl [some .u8] 5),.one (.sl [some .u64] 30),.one (.int .i64)],[.agg kOut,.one (.int .i64)],true⟩
def pf (p:Prog) (cx:List (List Int)) (an:List (List Int)) (fu:Int):List Dt:=[.z (((mrun p cx an fu).1).kind),.z (((mrun p cx an fu).1).r0),.l (((mrun p cx an fu).1).ctx),.l (((mrun p cx an fu).1).tr),.z (((mrun p cx an fu).1).left),.z ((mrun p cx an fu).2)]
def jF:List Dt→List Dt
 | [.z x0,.l x1,.l x2,.l x3,.z x4]=>pf ⟨x0,x1⟩ x2 x3 x4
 | _=>[]
set_option maxRecDepth 100000 in
def sT_mrun:Tr:=
(.call 3 [.int .i64,.int .i64] (.cons (.var 0) (.consl (.lvar 1) .nil)) 5
(.br (.eq (.var 6) (.lit 0))
(.br (.eq (.len (.lvar 2)) (.var 0))
(.br (.lt (.var 4) (.lit 0))
(.leaf (.cons (.lit 0) (.cons (.lit 0) (.consl .lnil (.consl .lnil (.cons (.lit 0) (.cons (.lit 2) .nil)))))))
(.br (.lt (.lit 10000) (.var 4))
(.leaf (.cons (.lit 0) (.cons (.lit 0) (.consl .lnil (.consl .lnil (.cons (.lit 0) (.cons (.lit 2) .nil)))))))
(.br (.lt (.lit 256) (.len (.lvar 2)))
(.leaf (.cons (.lit 0) (.cons (.lit 0) (.consl .lnil (.consl .lnil (.cons (.lit 0) (.cons (.lit 3) .nil)))))))
(.br (.lt (.len (.lvar 2)) (.lit 1073741824))
(.loop 0 7 [.int .i64,.int .u64,.int .u64,.int .u64,.int .u64,.int .u64,.int .u64,.int .u64,.int .u64,.int .u64,.int .u64,.int .u64,.int .i64,.int .u8,.int .u8,.int .u8,.int .u8,.int .u8,.int .u8,.int .u8,.int .u8,.int .u8,.int .u8,.int .u8,.int .u8,.int .u8,.int .u8,.int .u8,.int .u8,.int .u8,.int .u8,.int .u8,.int .u8,.int .u8,.int .u8,.int .u8,.int .u8,.int .u8,.int .u8,.int .u8,.int .u8,.int .u8,.int .u8,.int .u8,.int .u8,.int .u8,.int .u8,.int .u8,.int .u8,.int .u8,.int .u8,.int .u8,.int .u8,.int .u8,.int .u8,.int .u8,.int .u8,.int .u8,.int .u8,.int .u8,.int .u8,.int .u8,.int .u8,.int .u8,.int .u8,.int .u8,.int .u8,.int .u8,.int .u8,.int .u8,.int .u8,.int .u8,.int .u8,.int .u8,.int .u8,.int .u8,.int .u8,.int .i64,.int .i64,.list [some .u64],.list [some .i64,some .u64,some .i64,some .u64,some .u64,some .u64,some .u64,some .u64],.list [some .u8],.list [some .u8]] (.cons (.var 4) (.cons (.lit 0) (.cons (.lit 2097152) (.cons (.lit 0) (.cons (.lit 0) (.cons (.lit 0) (.cons (.lit 0) (.cons (.lit 0) (.cons (.lit 0) (.cons (.lit 0) (.cons (.lit 0) (.cons (.lit 3145792) (.cons (.lit 1026) (.cons (.lit 0) (.cons (.lit 0) (.cons (.lit 0) (.cons (.lit 0) (.cons (.lit 0) (.cons (.lit 0) (.cons (.lit 0) (.cons (.lit 0) (.cons (.lit 0) (.cons (.lit 0) (.cons (.lit 0) (.cons (.lit 0) (.cons (.lit 0) (.cons (.lit 0) (.cons (.lit 0) (.cons (.lit 0) (.cons (.lit 0) (.cons (.lit 0) (.cons (.lit 0) (.cons (.lit 0) (.cons (.lit 0) (.cons (.lit 0) (.cons (.lit 0) (.cons (.lit 0) (.cons (.lit 0) (.cons (.lit 0) (.cons (.lit 0) (.cons (.lit 0) (.cons (.lit 0) (.cons (.lit 0) (.cons (.lit 0) (.cons (.lit 0) (.cons (.lit 0) (.cons (.lit 0) (.cons (.lit 0) (.cons (.lit 0) (.cons (.lit 0) (.cons (.lit 0) (.cons (.lit 0) (.cons (.lit 0) (.cons (.lit 0) (.cons (.lit 0) (.cons (.lit 0) (.cons (.lit 0) (.cons (.lit 0) (.cons (.lit 0) (.cons (.lit 0) (.cons (.lit 0) (.cons (.lit 0) (.cons (.lit 0) (.cons (.lit 0) (.cons (.lit 0) (.cons (.lit 0) (.cons (.lit 0) (.cons (.lit 0) (.cons (.lit 0) (.cons (.lit 0) (.cons (.lit 0) (.cons (.lit 0) (.cons (.lit 0) (.cons (.lit 0) (.cons (.lit 0) (.cons (.lit 0) (.cons (.lit 0) (.cons (.lit 0) (.cons (.lit 0) (.consl (.lvar 3) (.consl .lnil (.consl (.lvar 2) (.consl (.lrep (.lit 64) (.cons (.lit 0) .nil)) .nil)))))))))))))))))))))))))))))))))))))))))))))))))))))))))))))))))))))))))))))))))))
(.br (.lt (.lit 0) (.var 7))
(.br (.lt (.var 84) (.lit 0))
.panic
(.br (.lt (.var 84) (.len (.lvar 1)))
(.call 9 [.int .i64] (.cons (.get (.lvar 1) (.var 84) 0) (.cons (.get (.lvar 1) (.var 84) 1) (.cons (.get (.lvar 1) (.var 84) 2) (.cons (.get (.lvar 1) (.var 84) 3) (.consb (.getb (.lvar 1) (.var 84) 4) (.cons (.get (.lvar 1) (.var 84) 5) (.cons (.get (.lvar 1) (.var 84) 6) (.cons (.get (.lvar 1) (.var 84) 7) (.cons (.get (.lvar 1) (.var 84) 8) .nil))))))))) 90
(.br (.eq (.bin .andNot .i64 (.var 90) (.var 19)) (.lit 0))
(.br (.eq (.get (.lvar 1) (.var 84) 0) (.lit 0))
(.br (.lt (.get (.lvar 1) (.var 84) 5) (.lit 0))
.panic
(.br (.lt (.get (.lvar 1) (.var 84) 5) (.lit 11))
(.call 1 [.int .u64] (.vs 8 11 (.cons (.get (.lvar 1) (.var 84) 0) (.cons (.get (.lvar 1) (.var 84) 1) (.cons (.get (.lvar 1) (.var 84) 2) (.cons (.get (.lvar 1) (.var 84) 3) (.consb (.getb (.lvar 1) (.var 84) 4) (.cons (.get (.lvar 1) (.var 84) 5) (.cons (.get (.lvar 1) (.var 84) 6) (.cons (.get (.lvar 1) (.var 84) 7) (.cons (.get (.lvar 1) (.var 84) 8) .nil)))))))))) 91
(.call 6 [.int .u64,.int .i64] (.cons (.get (.lvar 1) (.var 84) 1) (.cons (.get (.lvar 1) (.var 84) 2) (.cons (.nth (.get (.lvar 1) (.var 84) 5) (.vs 8 11 .nil)) (.cons (.var 91) .nil)))) 92
(.next 0 (.cons (.bin .sub .i64 (.var 7) (.lit 1)) (.cons (.ite (.eq (.get (.lvar 1) (.var 84) 5) (.lit 0)) (.var 92) (.var 8)) (.cons (.ite (.eq (.get (.lvar 1) (.var 84) 5) (.lit 1)) (.var 92) (.var 9)) (.cons (.ite (.eq (.get (.lvar 1) (.var 84) 5) (.lit 2)) (.var 92) (.var 10)) (.cons (.ite (.eq (.get (.lvar 1) (.var 84) 5) (.lit 3)) (.var 92) (.var 11)) (.cons (.ite (.eq (.get (.lvar 1) (.var 84) 5) (.lit 4)) (.var 92) (.var 12)) (.cons (.ite (.eq (.get (.lvar 1) (.var 84) 5) (.lit 5)) (.var 92) (.var 13)) (.cons (.ite (.eq (.get (.lvar 1) (.var 84) 5) (.lit 6)) (.var 92) (.var 14)) (.cons (.ite (.eq (.get (.lvar 1) (.var 84) 5) (.lit 7)) (.var 92) (.var 15)) (.cons (.ite (.eq (.get (.lvar 1) (.var 84) 5) (.lit 8)) (.var 92) (.var 16)) (.cons (.ite (.eq (.get (.lvar 1) (.var 84) 5) (.lit 9)) (.var 92) (.var 17)) (.cons (.ite (.eq (.get (.lvar 1) (.var 84) 5) (.lit 10)) (.var 92) (.var 18)) (.cons (.bin .or .i64 (.var 19) (.bin .shl .i64 (.lit 1) (.get (.lvar 1) (.var 84) 5))) (.vs 20 64 (.cons (.bin .add .i64 (.var 84) (.lit 1)) (.cons (.bin .add .i64 (.var 84) (.lit 1)) (.consl (.lvar 86) (.consl (.lvar 87) (.consl (.lvar 88) (.consl (.lvar 89) .nil)))))))))))))))))))))))
.panic))
(.br (.eq (.get (.lvar 1) (.var 84) 0) (.lit 1))
(.br (.lt (.get (.lvar 1) (.var 84) 6) (.lit 0))
.panic
(.br (.lt (.get (.lvar 1) (.var 84) 6) (.lit 11))
(.call 0 [.int .u64] (.cons (.get (.lvar 1) (.var 84) 7) .nil) 91
(.call 8 [.int .u64,.int .i64] (.cons (.lit 1048576) (.consl (.lrep (.lit 0) (.cons (.lit 0) .nil)) (.consb (.tt false) (.cons (.lit 2097152) (.consl (.lvar 88) (.consb (.tt true) (.cons (.lit 3145728) (.consl (.lvar 89) (.consb (.tt true) (.cons (.lit 4194304) (.consl .lnil (.consb (.tt true) (.cons (.bin .add .u64 (.nth (.get (.lvar 1) (.var 84) 6) (.vs 8 11 .nil)) (.var 91)) (.cons (.conv .i64 (.get (.lvar 1) (.var 84) 3)) .nil)))))))))))))) 92
(.br (.eq (.var 93) (.lit 0))
(.br (.lt (.get (.lvar 1) (.var 84) 5) (.lit 0))
.panic
(.br (.lt (.get (.lvar 1) (.var 84) 5) (.lit 11))
(.next 0 (.cons (.bin .sub .i64 (.var 7) (.lit 1)) (.cons (.ite (.eq (.get (.lvar 1) (.var 84) 5) (.lit 0)) (.var 92) (.var 8)) (.cons (.ite (.eq (.get (.lvar 1) (.var 84) 5) (.lit 1)) (.var 92) (.var 9)) (.cons (.ite (.eq (.get (.lvar 1) (.var 84) 5) (.lit 2)) (.var 92) (.var 10)) (.cons (.ite (.eq (.get (.lvar 1) (.var 84) 5) (.lit 3)) (.var 92) (.var 11)) (.cons (.ite (.eq (.get (.lvar 1) (.var 84) 5) (.lit 4)) (.var 92) (.var 12)) (.cons (.ite (.eq (.get (.lvar 1) (.var 84) 5) (.lit 5)) (.var 92) (.var 13)) (.cons (.ite (.eq (.get (.lvar 1) (.var 84) 5) (.lit 6)) (.var 92) (.var 14)) (.cons (.ite (.eq (.get (.lvar 1) (.var 84) 5) (.lit 7)) (.var 92) (.var 15)) (.cons (.ite (.eq (.get (.lvar 1) (.var 84) 5) (.lit 8)) (.var 92) (.var 16)) (.cons (.ite (.eq (.get (.lvar 1) (.var 84) 5) (.lit 9)) (.var 92) (.var 17)) (.cons (.ite (.eq (.get (.lvar 1) (.var 84) 5) (.lit 10)) (.var 92) (.var 18)) (.cons (.bin .or .i64 (.var 19) (.bin .shl .i64 (.lit 1) (.get (.lvar 1) (.var 84) 5))) (.vs 20 64 (.cons (.bin .add .i64 (.var 84) (.lit 1)) (.cons (.bin .add .i64 (.var 84) (.lit 1)) (.consl (.lvar 86) (.consl (.lvar 87) (.consl (.lvar 88) (.consl (.lvar 89) .nil)))))))))))))))))))))
.panic))
(.call 2 [.sl [some .u8] 5] (.cons (.lit 1048576) (.consl (.lrep (.lit 0) (.cons (.lit 0) .nil)) (.consb (.tt false) (.cons (.lit 2097152) (.consl (.lvar 88) (.consb (.tt true) (.cons (.lit 3145728) (.consl (.lvar 89) (.consb (.tt true) (.cons (.lit 4194304) (.consl .lnil (.consb (.tt true) .nil)))))))))))) 94
(.leaf (.cons (.lit 3) (.cons (.lit 0) (.consl (.lvar 94) (.consl (.lvar 87) (.cons (.bin .sub .i64 (.var 7) (.lit 1)) (.cons (.lit 0) .nil)))))))))))
.panic))
(.br (.eq (.get (.lvar 1) (.var 84) 0) (.lit 2))
(.br (.lt (.get (.lvar 1) (.var 84) 5) (.lit 0))
.panic
(.br (.lt (.get (.lvar 1) (.var 84) 5) (.lit 11))
(.call 0 [.int .u64] (.cons (.get (.lvar 1) (.var 84) 7) .nil) 91
(.br (.lt (.get (.lvar 1) (.var 84) 6) (.lit 0))
.panic
(.br (.lt (.get (.lvar 1) (.var 84) 6) (.lit 11))
(.cut 1 92 []
(.br (.eq (.conv .i64 (.get (.lvar 1) (.var 84) 3)) (.lit 1))
(.next 1 .nil)
(.br (.eq (.conv .i64 (.get (.lvar 1) (.var 84) 3)) (.lit 2))
(.next 1 .nil)
(.br (.eq (.conv .i64 (.get (.lvar 1) (.var 84) 3)) (.lit 4))
(.next 1 .nil)
(.br (.eq (.conv .i64 (.get (.lvar 1) (.var 84) 3)) (.lit 8))
(.next 1 .nil)
(.loop 2 92 [.int .i64,.list [some .u8],.list [some .u8]] (.cons (.lit 0) (.consl (.lvar 88) (.consl (.lvar 89) .nil)))
(.br (.lt (.var 92) (.lit 0))
(.br (.lt (.bin .mul .i64 (.lit 8) (.var 92)) (.lit 0))
.panic
.panic)
(.br (.lt (.len (.lvar 94)) (.lit 1073741824))
(.br (.eq (.len (.lvar 94)) (.lit 64))
(.call 2 [.sl [some .u8] 5] (.cons (.lit 1048576) (.consl (.lrep (.lit 0) (.cons (.lit 0) .nil)) (.consb (.tt false) (.cons (.lit 2097152) (.consl (.lvar 93) (.consb (.tt true) (.cons (.lit 3145728) (.consl (.lvar 94) (.consb (.tt true) (.cons (.lit 4194304) (.consl .lnil (.consb (.tt true) .nil)))))))))))) 95
(.leaf (.cons (.lit 3) (.cons (.lit 0) (.consl (.lvar 95) (.consl (.lvar 87) (.cons (.bin .sub .i64 (.var 7) (.lit 1)) (.cons (.lit 0) .nil))))))))
(.stuck 225))
.panic)))))))
(.cut 2 92 []
(.cut 3 92 [.bool]
(.br (.lt (.bin .add .u64 (.nth (.get (.lvar 1) (.var 84) 5) (.vs 8 11 .nil)) (.var 91)) (.lit 1048576))
(.next 3 (.consb (.tt true) .nil))
(.br (.lt (.lit 0) (.bin .sub .u64 (.bin .add .u64 (.nth (.get (.lvar 1) (.var 84) 5) (.vs 8 11 .nil)) (.var 91)) (.lit 1048576)))
(.next 3 (.consb (.tt true) .nil))
(.next 3 (.consb (.lt (.bin .sub .u64 (.lit 0) (.bin .sub .u64 (.bin .add .u64 (.nth (.get (.lvar 1) (.var 84) 5) (.vs 8 11 .nil)) (.var 91)) (.lit 1048576))) (.conv .u64 (.conv .i64 (.get (.lvar 1) (.var 84) 3)))) .nil))))
(.br (.bvar 92)
(.next 2 .nil)
(.br (.lt (.bin .sub .u64 (.bin .add .u64 (.nth (.get (.lvar 1) (.var 84) 5) (.vs 8 11 .nil)) (.var 91)) (.lit 1048576)) (.lit 0))
.panic
(.br (.lt (.bin .add .i64 (.conv .i64 (.bin .sub .u64 (.bin .add .u64 (.nth (.get (.lvar 1) (.var 84) 5) (.vs 8 11 .nil)) (.var 91)) (.lit 1048576))) (.conv .i64 (.get (.lvar 1) (.var 84) 3))) (.bin .sub .u64 (.bin .add .u64 (.nth (.get (.lvar 1) (.var 84) 5) (.vs 8 11 .nil)) (.var 91)) (.lit 1048576)))
.panic
(.br (.lt (.lit 0) (.bin .add .i64 (.conv .i64 (.bin .sub .u64 (.bin .add .u64 (.nth (.get (.lvar 1) (.var 84) 5) (.vs 8 11 .nil)) (.var 91)) (.lit 1048576))) (.conv .i64 (.get (.lvar 1) (.var 84) 3))))
.panic
(.next 2 .nil))))))
(.cut 3 92 []
(.cut 4 92 [.bool]
(.br (.lt (.bin .add .u64 (.nth (.get (.lvar 1) (.var 84) 5) (.vs 8 11 .nil)) (.var 91)) (.lit 2097152))
(.next 4 (.consb (.tt true) .nil))
(.br (.lt (.conv .u64 (.len (.lvar 88))) (.bin .sub .u64 (.bin .add .u64 (.nth (.get (.lvar 1) (.var 84) 5) (.vs 8 11 .nil)) (.var 91)) (.lit 2097152)))
(.next 4 (.consb (.tt true) .nil))
(.next 4 (.consb (.lt (.bin .sub .u64 (.conv .u64 (.len (.lvar 88))) (.bin .sub .u64 (.bin .add .u64 (.nth (.get (.lvar 1) (.var 84) 5) (.vs 8 11 .nil)) (.var 91)) (.lit 2097152))) (.conv .u64 (.conv .i64 (.get (.lvar 1) (.var 84) 3)))) .nil))))
(.br (.bvar 92)
(.next 3 .nil)
(.br (.lt (.bin .sub .u64 (.bin .add .u64 (.nth (.get (.lvar 1) (.var 84) 5) (.vs 8 11 .nil)) (.var 91)) (.lit 2097152)) (.lit 0))
.panic
(.br (.lt (.bin .add .i64 (.conv .i64 (.bin .sub .u64 (.bin .add .u64 (.nth (.get (.lvar 1) (.var 84) 5) (.vs 8 11 .nil)) (.var 91)) (.lit 2097152))) (.conv .i64 (.get (.lvar 1) (.var 84) 3))) (.bin .sub .u64 (.bin .add .u64 (.nth (.get (.lvar 1) (.var 84) 5) (.vs 8 11 .nil)) (.var 91)) (.lit 2097152)))
.panic
(.br (.lt (.len (.lvar 88)) (.bin .add .i64 (.conv .i64 (.bin .sub .u64 (.bin .add .u64 (.nth (.get (.lvar 1) (.var 84) 5) (.vs 8 11 .nil)) (.var 91)) (.lit 2097152))) (.conv .i64 (.get (.lvar 1) (.var 84) 3))))
.panic
(.loop 5 93 [.int .i64,.list [some .u8],.list [some .u8]] (.cons (.lit 0) (.consl (.lvar 88) (.consl (.lvar 89) .nil)))
(.br (.lt (.var 93) (.len (.ldrop (.ltake (.lvar 88) (.bin .add .i64 (.conv .i64 (.bin .sub .u64 (.bin .add .u64 (.nth (.get (.lvar 1) (.var 84) 5) (.vs 8 11 .nil)) (.var 91)) (.lit 2097152))) (.conv .i64 (.get (.lvar 1) (.var 84) 3)))) (.bin .sub .u64 (.bin .add .u64 (.nth (.get (.lvar 1) (.var 84) 5) (.vs 8 11 .nil)) (.var 91)) (.lit 2097152)))))
(.br (.lt (.bin .mul .i64 (.lit 8) (.var 93)) (.lit 0))
.panic
(.br (.lt (.len (.lvar 94)) (.bin .add .i64 (.conv .i64 (.bin .sub .u64 (.bin .add .u64 (.nth (.get (.lvar 1) (.var 84) 5) (.vs 8 11 .nil)) (.var 91)) (.lit 2097152))) (.conv .i64 (.get (.lvar 1) (.var 84) 3))))
(.stuck 185)
(.br (.lt (.var 93) (.lit 0))
.panic
(.br (.lt (.var 93) (.len (.ldrop (.ltake (.lvar 94) (.bin .add .i64 (.conv .i64 (.bin .sub .u64 (.bin .add .u64 (.nth (.get (.lvar 1) (.var 84) 5) (.vs 8 11 .nil)) (.var 91)) (.lit 2097152))) (.conv .i64 (.get (.lvar 1) (.var 84) 3)))) (.bin .sub .u64 (.bin .add .u64 (.nth (.get (.lvar 1) (.var 84) 5) (.vs 8 11 .nil)) (.var 91)) (.lit 2097152)))))
(.br (.lt (.bin .add .i64 (.bin .sub .u64 (.bin .add .u64 (.nth (.get (.lvar 1) (.var 84) 5) (.vs 8 11 .nil)) (.var 91)) (.lit 2097152)) (.var 93)) (.lit 0))
(.stuck 58)
(.br (.lt (.bin .add .i64 (.bin .sub .u64 (.bin .add .u64 (.nth (.get (.lvar 1) (.var 84) 5) (.vs 8 11 .nil)) (.var 91)) (.lit 2097152)) (.var 93)) (.len (.lvar 94)))
(.next 5 (.cons (.bin .add .i64 (.var 93) (.lit 1)) (.consl (.lset (.lvar 94) (.bin .add .i64 (.bin .sub .u64 (.bin .add .u64 (.nth (.get (.lvar 1) (.var 84) 5) (.vs 8 11 .nil)) (.var 91)) (.lit 2097152)) (.var 93)) 0 (.conv .u8 (.bin .shr .u64 (.nth (.get (.lvar 1) (.var 84) 6) (.vs 8 11 .nil)) (.bin .mul .i64 (.lit 8) (.var 93))))) (.consl (.lvar 95) .nil))))
(.stuck 58)))
.panic))))
(.br (.lt (.len (.lvar 95)) (.lit 1073741824))
(.br (.eq (.len (.lvar 95)) (.lit 64))
(.next 0 (.cons (.bin .sub .i64 (.var 7) (.lit 1)) (.vs 8 12 (.cons (.get (.lvar 95) (.lit 0) 0) (.cons (.get (.lvar 95) (.lit 1) 0) (.cons (.get (.lvar 95) (.lit 2) 0) (.cons (.get (.lvar 95) (.lit 3) 0) (.cons (.get (.lvar 95) (.lit 4) 0) (.cons (.get (.lvar 95) (.lit 5) 0) (.cons (.get (.lvar 95) (.lit 6) 0) (.cons (.get (.lvar 95) (.lit 7) 0) (.cons (.get (.lvar 95) (.lit 8) 0) (.cons (.get (.lvar 95) (.lit 9) 0) (.cons (.get (.lvar 95) (.lit 10) 0) (.cons (.get (.lvar 95) (.lit 11) 0) (.cons (.get (.lvar 95) (.lit 12) 0) (.cons (.get (.lvar 95) (.lit 13) 0) (.cons (.get (.lvar 95) (.lit 14) 0) (.cons (.get (.lvar 95) (.lit 15) 0) (.cons (.get (.lvar 95) (.lit 16) 0) (.cons (.get (.lvar 95) (.lit 17) 0) (.cons (.get (.lvar 95) (.lit 18) 0) (.cons (.get (.lvar 95) (.lit 19) 0) (.cons (.get (.lvar 95) (.lit 20) 0) (.cons (.get (.lvar 95) (.lit 21) 0) (.cons (.get (.lvar 95) (.lit 22) 0) (.cons (.get (.lvar 95) (.lit 23) 0) (.cons (.get (.lvar 95) (.lit 24) 0) (.cons (.get (.lvar 95) (.lit 25) 0) (.cons (.get (.lvar 95) (.lit 26) 0) (.cons (.get (.lvar 95) (.lit 27) 0) (.cons (.get (.lvar 95) (.lit 28) 0) (.cons (.get (.lvar 95) (.lit 29) 0) (.cons (.get (.lvar 95) (.lit 30) 0) (.cons (.get (.lvar 95) (.lit 31) 0) (.cons (.get (.lvar 95) (.lit 32) 0) (.cons (.get (.lvar 95) (.lit 33) 0) (.cons (.get (.lvar 95) (.lit 34) 0) (.cons (.get (.lvar 95) (.lit 35) 0) (.cons (.get (.lvar 95) (.lit 36) 0) (.cons (.get (.lvar 95) (.lit 37) 0) (.cons (.get (.lvar 95) (.lit 38) 0) (.cons (.get (.lvar 95) (.lit 39) 0) (.cons (.get (.lvar 95) (.lit 40) 0) (.cons (.get (.lvar 95) (.lit 41) 0) (.cons (.get (.lvar 95) (.lit 42) 0) (.cons (.get (.lvar 95) (.lit 43) 0) (.cons (.get (.lvar 95) (.lit 44) 0) (.cons (.get (.lvar 95) (.lit 45) 0) (.cons (.get (.lvar 95) (.lit 46) 0) (.cons (.get (.lvar 95) (.lit 47) 0) (.cons (.get (.lvar 95) (.lit 48) 0) (.cons (.get (.lvar 95) (.lit 49) 0) (.cons (.get (.lvar 95) (.lit 50) 0) (.cons (.get (.lvar 95) (.lit 51) 0) (.cons (.get (.lvar 95) (.lit 52) 0) (.cons (.get (.lvar 95) (.lit 53) 0) (.cons (.get (.lvar 95) (.lit 54) 0) (.cons (.get (.lvar 95) (.lit 55) 0) (.cons (.get (.lvar 95) (.lit 56) 0) (.cons (.get (.lvar 95) (.lit 57) 0) (.cons (.get (.lvar 95) (.lit 58) 0) (.cons (.get (.lvar 95) (.lit 59) 0) (.cons (.get (.lvar 95) (.lit 60) 0) (.cons (.get (.lvar 95) (.lit 61) 0) (.cons (.get (.lvar 95) (.lit 62) 0) (.cons (.get (.lvar 95) (.lit 63) 0) (.cons (.bin .add .i64 (.var 84) (.lit 1)) (.cons (.bin .add .i64 (.var 84) (.lit 1)) (.consl (.lvar 86) (.consl (.lvar 87) (.consl (.lvar 94) (.consl (.lvar 95) .nil)))))))))))))))))))))))))))))))))))))))))))))))))))))))))))))))))))))))))
(.stuck 225))
.panic))))))))
(.cut 4 92 []
(.cut 5 92 [.bool]
(.br (.lt (.bin .add .u64 (.nth (.get (.lvar 1) (.var 84) 5) (.vs 8 11 .nil)) (.var 91)) (.lit 3145728))
(.next 5 (.consb (.tt true) .nil))
(.br (.lt (.conv .u64 (.len (.lvar 89))) (.bin .sub .u64 (.bin .add .u64 (.nth (.get (.lvar 1) (.var 84) 5) (.vs 8 11 .nil)) (.var 91)) (.lit 3145728)))
(.next 5 (.consb (.tt true) .nil))
(.next 5 (.consb (.lt (.bin .sub .u64 (.conv .u64 (.len (.lvar 89))) (.bin .sub .u64 (.bin .add .u64 (.nth (.get (.lvar 1) (.var 84) 5) (.vs 8 11 .nil)) (.var 91)) (.lit 3145728))) (.conv .u64 (.conv .i64 (.get (.lvar 1) (.var 84) 3)))) .nil))))
(.br (.bvar 92)
(.next 4 .nil)
(.br (.lt (.bin .sub .u64 (.bin .add .u64 (.nth (.get (.lvar 1) (.var 84) 5) (.vs 8 11 .nil)) (.var 91)) (.lit 3145728)) (.lit 0))
.panic
(.br (.lt (.bin .add .i64 (.conv .i64 (.bin .sub .u64 (.bin .add .u64 (.nth (.get (.lvar 1) (.var 84) 5) (.vs 8 11 .nil)) (.var 91)) (.lit 3145728))) (.conv .i64 (.get (.lvar 1) (.var 84) 3))) (.bin .sub .u64 (.bin .add .u64 (.nth (.get (.lvar 1) (.var 84) 5) (.vs 8 11 .nil)) (.var 91)) (.lit 3145728)))
.panic
(.br (.lt (.len (.lvar 89)) (.bin .add .i64 (.conv .i64 (.bin .sub .u64 (.bin .add .u64 (.nth (.get (.lvar 1) (.var 84) 5) (.vs 8 11 .nil)) (.var 91)) (.lit 3145728))) (.conv .i64 (.get (.lvar 1) (.var 84) 3))))
.panic
(.loop 6 93 [.int .i64,.list [some .u8],.list [some .u8]] (.cons (.lit 0) (.consl (.lvar 88) (.consl (.lvar 89) .nil)))
(.br (.lt (.var 93) (.len (.ldrop (.ltake (.lvar 89) (.bin .add .i64 (.conv .i64 (.bin .sub .u64 (.bin .add .u64 (.nth (.get (.lvar 1) (.var 84) 5) (.vs 8 11 .nil)) (.var 91)) (.lit 3145728))) (.conv .i64 (.get (.lvar 1) (.var 84) 3)))) (.bin .sub .u64 (.bin .add .u64 (.nth (.get (.lvar 1) (.var 84) 5) (.vs 8 11 .nil)) (.var 91)) (.lit 3145728)))))
(.br (.lt (.bin .mul .i64 (.lit 8) (.var 93)) (.lit 0))
.panic
(.br (.lt (.len (.lvar 95)) (.bin .add .i64 (.conv .i64 (.bin .sub .u64 (.bin .add .u64 (.nth (.get (.lvar 1) (.var 84) 5) (.vs 8 11 .nil)) (.var 91)) (.lit 3145728))) (.conv .i64 (.get (.lvar 1) (.var 84) 3))))
(.stuck 185)
(.br (.lt (.var 93) (.lit 0))
.panic
(.br (.lt (.var 93) (.len (.ldrop (.ltake (.lvar 95) (.bin .add .i64 (.conv .i64 (.bin .sub .u64 (.bin .add .u64 (.nth (.get (.lvar 1) (.var 84) 5) (.vs 8 11 .nil)) (.var 91)) (.lit 3145728))) (.conv .i64 (.get (.lvar 1) (.var 84) 3)))) (.bin .sub .u64 (.bin .add .u64 (.nth (.get (.lvar 1) (.var 84) 5) (.vs 8 11 .nil)) (.var 91)) (.lit 3145728)))))
(.br (.lt (.bin .add .i64 (.bin .sub .u64 (.bin .add .u64 (.nth (.get (.lvar 1) (.var 84) 5) (.vs 8 11 .nil)) (.var 91)) (.lit 3145728)) (.var 93)) (.lit 0))
(.stuck 58)
(.br (.lt (.bin .add .i64 (.bin .sub .u64 (.bin .add .u64 (.nth (.get (.lvar 1) (.var 84) 5) (.vs 8 11 .nil)) (.var 91)) (.lit 3145728)) (.var 93)) (.len (.lvar 95)))
(.next 6 (.cons (.bin .add .i64 (.var 93) (.lit 1)) (.consl (.lvar 94) (.consl (.lset (.lvar 95) (.bin .add .i64 (.bin .sub .u64 (.bin .add .u64 (.nth (.get (.lvar 1) (.var 84) 5) (.vs 8 11 .nil)) (.var 91)) (.lit 3145728)) (.var 93)) 0 (.conv .u8 (.bin .shr .u64 (.nth (.get (.lvar 1) (.var 84) 6) (.vs 8 11 .nil)) (.bin .mul .i64 (.lit 8) (.var 93))))) .nil))))
(.stuck 58)))
.panic))))
(.br (.lt (.len (.lvar 95)) (.lit 1073741824))
(.br (.eq (.len (.lvar 95)) (.lit 64))
(.next 0 (.cons (.bin .sub .i64 (.var 7) (.lit 1)) (.vs 8 12 (.cons (.get (.lvar 95) (.lit 0) 0) (.cons (.get (.lvar 95) (.lit 1) 0) (.cons (.get (.lvar 95) (.lit 2) 0) (.cons (.get (.lvar 95) (.lit 3) 0) (.cons (.get (.lvar 95) (.lit 4) 0) (.cons (.get (.lvar 95) (.lit 5) 0) (.cons (.get (.lvar 95) (.lit 6) 0) (.cons (.get (.lvar 95) (.lit 7) 0) (.cons (.get (.lvar 95) (.lit 8) 0) (.cons (.get (.lvar 95) (.lit 9) 0) (.cons (.get (.lvar 95) (.lit 10) 0) (.cons (.get (.lvar 95) (.lit 11) 0) (.cons (.get (.lvar 95) (.lit 12) 0) (.cons (.get (.lvar 95) (.lit 13) 0) (.cons (.get (.lvar 95) (.lit 14) 0) (.cons (.get (.lvar 95) (.lit 15) 0) (.cons (.get (.lvar 95) (.lit 16) 0) (.cons (.get (.lvar 95) (.lit 17) 0) (.cons (.get (.lvar 95) (.lit 18) 0) (.cons (.get (.lvar 95) (.lit 19) 0) (.cons (.get (.lvar 95) (.lit 20) 0) (.cons (.get (.lvar 95) (.lit 21) 0) (.cons (.get (.lvar 95) (.lit 22) 0) (.cons (.get (.lvar 95) (.lit 23) 0) (.cons (.get (.lvar 95) (.lit 24) 0) (.cons (.get (.lvar 95) (.lit 25) 0) (.cons (.get (.lvar 95) (.lit 26) 0) (.cons (.get (.lvar 95) (.lit 27) 0) (.cons (.get (.lvar 95) (.lit 28) 0) (.cons (.get (.lvar 95) (.lit 29) 0) (.cons (.get (.lvar 95) (.lit 30) 0) (.cons (.get (.lvar 95) (.lit 31) 0) (.cons (.get (.lvar 95) (.lit 32) 0) (.cons (.get (.lvar 95) (.lit 33) 0) (.cons (.get (.lvar 95) (.lit 34) 0) (.cons (.get (.lvar 95) (.lit 35) 0) (.cons (.get (.lvar 95) (.lit 36) 0) (.cons (.get (.lvar 95) (.lit 37) 0) (.cons (.get (.lvar 95) (.lit 38) 0) (.cons (.get (.lvar 95) (.lit 39) 0) (.cons (.get (.lvar 95) (.lit 40) 0) (.cons (.get (.lvar 95) (.lit 41) 0) (.cons (.get (.lvar 95) (.lit 42) 0) (.cons (.get (.lvar 95) (.lit 43) 0) (.cons (.get (.lvar 95) (.lit 44) 0) (.cons (.get (.lvar 95) (.lit 45) 0) (.cons (.get (.lvar 95) (.lit 46) 0) (.cons (.get (.lvar 95) (.lit 47) 0) (.cons (.get (.lvar 95) (.lit 48) 0) (.cons (.get (.lvar 95) (.lit 49) 0) (.cons (.get (.lvar 95) (.lit 50) 0) (.cons (.get (.lvar 95) (.lit 51) 0) (.cons (.get (.lvar 95) (.lit 52) 0) (.cons (.get (.lvar 95) (.lit 53) 0) (.cons (.get (.lvar 95) (.lit 54) 0) (.cons (.get (.lvar 95) (.lit 55) 0) (.cons (.get (.lvar 95) (.lit 56) 0) (.cons (.get (.lvar 95) (.lit 57) 0) (.cons (.get (.lvar 95) (.lit 58) 0) (.cons (.get (.lvar 95) (.lit 59) 0) (.cons (.get (.lvar 95) (.lit 60) 0) (.cons (.get (.lvar 95) (.lit 61) 0) (.cons (.get (.lvar 95) (.lit 62) 0) (.cons (.get (.lvar 95) (.lit 63) 0) (.cons (.bin .add .i64 (.var 84) (.lit 1)) (.cons (.bin .add .i64 (.var 84) (.lit 1)) (.consl (.lvar 86) (.consl (.lvar 87) (.consl (.lvar 94) (.consl (.lvar 95) .nil)))))))))))))))))))))))))))))))))))))))))))))))))))))))))))))))))))))))))
(.stuck 225))
.panic))))))))
(.cut 5 92 []
(.cut 6 92 [.bool]
(.br (.lt (.bin .add .u64 (.nth (.get (.lvar 1) (.var 84) 5) (.vs 8 11 .nil)) (.var 91)) (.lit 4194304))
(.next 6 (.consb (.tt true) .nil))
(.br (.lt (.lit 0) (.bin .sub .u64 (.bin .add .u64 (.nth (.get (.lvar 1) (.var 84) 5) (.vs 8 11 .nil)) (.var 91)) (.lit 4194304)))
(.next 6 (.consb (.tt true) .nil))
(.next 6 (.consb (.lt (.bin .sub .u64 (.lit 0) (.bin .sub .u64 (.bin .add .u64 (.nth (.get (.lvar 1) (.var 84) 5) (.vs 8 11 .nil)) (.var 91)) (.lit 4194304))) (.conv .u64 (.conv .i64 (.get (.lvar 1) (.var 84) 3)))) .nil))))
(.br (.bvar 92)
(.next 5 .nil)
(.stuck 50)))
(.loop 6 92 [.int .i64,.list [some .u8],.list [some .u8]] (.cons (.lit 0) (.consl (.lvar 88) (.consl (.lvar 89) .nil)))
(.br (.lt (.var 92) (.lit 0))
(.br (.lt (.bin .mul .i64 (.lit 8) (.var 92)) (.lit 0))
.panic
.panic)
(.br (.lt (.len (.lvar 94)) (.lit 1073741824))
(.br (.eq (.len (.lvar 94)) (.lit 64))
(.call 2 [.sl [some .u8] 5] (.cons (.lit 1048576) (.consl (.lrep (.lit 0) (.cons (.lit 0) .nil)) (.consb (.tt false) (.cons (.lit 2097152) (.consl (.lvar 93) (.consb (.tt true) (.cons (.lit 3145728) (.consl (.lvar 94) (.consb (.tt true) (.cons (.lit 4194304) (.consl .lnil (.consb (.tt true) .nil)))))))))))) 95
(.leaf (.cons (.lit 3) (.cons (.lit 0) (.consl (.lvar 95) (.consl (.lvar 87) (.cons (.bin .sub .i64 (.var 7) (.lit 1)) (.cons (.lit 0) .nil))))))))
(.stuck 225))
.panic))))))))
.panic)))
.panic))
(.br (.eq (.get (.lvar 1) (.var 84) 0) (.lit 3))
(.br (.lt (.get (.lvar 1) (.var 84) 5) (.lit 0))
.panic
(.br (.lt (.get (.lvar 1) (.var 84) 5) (.lit 11))
(.call 1 [.int .u64] (.vs 8 11 (.cons (.get (.lvar 1) (.var 84) 0) (.cons (.get (.lvar 1) (.var 84) 1) (.cons (.get (.lvar 1) (.var 84) 2) (.cons (.get (.lvar 1) (.var 84) 3) (.consb (.getb (.lvar 1) (.var 84) 4) (.cons (.get (.lvar 1) (.var 84) 5) (.cons (.get (.lvar 1) (.var 84) 6) (.cons (.get (.lvar 1) (.var 84) 7) (.cons (.get (.lvar 1) (.var 84) 8) .nil)))))))))) 91
(.call 7 [.bool,.int .i64] (.cons (.get (.lvar 1) (.var 84) 1) (.cons (.lit 64) (.cons (.nth (.get (.lvar 1) (.var 84) 5) (.vs 8 11 .nil)) (.cons (.var 91) .nil)))) 92
(.br (.bvar 92)
(.call 4 [.int .i64,.bool] (.cons (.var 84) (.cons (.get (.lvar 1) (.var 84) 0) (.cons (.get (.lvar 1) (.var 84) 1) (.cons (.get (.lvar 1) (.var 84) 2) (.cons (.get (.lvar 1) (.var 84) 3) (.consb (.getb (.lvar 1) (.var 84) 4) (.cons (.get (.lvar 1) (.var 84) 5) (.cons (.get (.lvar 1) (.var 84) 6) (.cons (.get (.lvar 1) (.var 84) 7) (.cons (.get (.lvar 1) (.var 84) 8) .nil)))))))))) 94
(.next 0 (.cons (.bin .sub .i64 (.var 7) (.lit 1)) (.vs 8 76 (.cons (.var 94) (.cons (.var 94) (.consl (.lvar 86) (.consl (.lvar 87) (.consl (.lvar 88) (.consl (.lvar 89) .nil))))))))))
(.next 0 (.cons (.bin .sub .i64 (.var 7) (.lit 1)) (.vs 8 76 (.cons (.bin .add .i64 (.var 84) (.lit 1)) (.cons (.bin .add .i64 (.var 84) (.lit 1)) (.consl (.lvar 86) (.consl (.lvar 87) (.consl (.lvar 88) (.consl (.lvar 89) .nil))))))))))))
.panic))
(.br (.eq (.get (.lvar 1) (.var 84) 0) (.lit 4))
(.call 4 [.int .i64,.bool] (.cons (.var 84) (.cons (.get (.lvar 1) (.var 84) 0) (.cons (.get (.lvar 1) (.var 84) 1) (.cons (.get (.lvar 1) (.var 84) 2) (.cons (.get (.lvar 1) (.var 84) 3) (.consb (.getb (.lvar 1) (.var 84) 4) (.cons (.get (.lvar 1) (.var 84) 5) (.cons (.get (.lvar 1) (.var 84) 6) (.cons (.get (.lvar 1) (.var 84) 7) (.cons (.get (.lvar 1) (.var 84) 8) .nil)))))))))) 91
(.next 0 (.cons (.bin .sub .i64 (.var 7) (.lit 1)) (.vs 8 76 (.cons (.var 91) (.cons (.var 91) (.consl (.lvar 86) (.consl (.lvar 87) (.consl (.lvar 88) (.consl (.lvar 89) .nil))))))))))
(.br (.eq (.get (.lvar 1) (.var 84) 0) (.lit 5))
(.br (.eq (.len (.lvar 86)) (.lit 0))
(.call 2 [.sl [some .u8] 5] (.cons (.lit 1048576) (.consl (.lrep (.lit 0) (.cons (.lit 0) .nil)) (.consb (.tt false) (.cons (.lit 2097152) (.consl (.lvar 88) (.consb (.tt true) (.cons (.lit 3145728) (.consl (.lvar 89) (.consb (.tt true) (.cons (.lit 4194304) (.consl .lnil (.consb (.tt true) .nil)))))))))))) 91
(.leaf (.cons (.lit 2) (.cons (.lit 0) (.consl (.lvar 91) (.consl (.lvar 87) (.cons (.bin .sub .i64 (.var 7) (.lit 1)) (.cons (.lit 0) .nil))))))))
(.call 5 [.int .i64] (.cons (.get (.lvar 1) (.var 84) 8) .nil) 91
(.br (.lt (.bin .add .i64 (.lit 1) (.var 91)) (.lit 1))
.panic
(.br (.lt (.lit 11) (.bin .add .i64 (.lit 1) (.var 91)))
.panic
(.br (.lt (.lit 0) (.len (.lvar 86)))
(.br (.lt (.lit 5) (.len (.ldrop (.ltake (.lapp (.lapp (.lapp (.lapp (.lapp (.lapp (.lapp (.lapp (.lapp (.lapp (.lapp .lnil (.cons (.var 8) .nil)) (.cons (.var 9) .nil)) (.cons (.var 10) .nil)) (.cons (.var 11) .nil)) (.cons (.var 12) .nil)) (.cons (.var 13) .nil)) (.cons (.var 14) .nil)) (.cons (.var 15) .nil)) (.cons (.var 16) .nil)) (.cons (.var 17) .nil)) (.cons (.var 18) .nil)) (.bin .add .i64 (.lit 1) (.var 91))) (.lit 1))))
(.stuck 220)
(.br (.lt (.len (.lvar 87)) (.lit 1073741824))
(.br (.lt (.len (.lvar 86)) (.lit 1))
.panic
(.next 0 (.cons (.bin .sub .i64 (.var 7) (.lit 1)) (.cons (.get (.lvar 86) (.lit 0) 0) (.cons (.lit 0) (.cons (.lit 0) (.cons (.lit 0) (.cons (.lit 0) (.cons (.lit 0) (.vs 14 5 (.cons (.bin .andNot .i64 (.bin .andNot .i64 (.bin .andNot .i64 (.bin .andNot .i64 (.bin .andNot .i64 (.bin .or .i64 (.var 19) (.lit 1)) (.lit 2)) (.lit 4)) (.lit 8)) (.lit 16)) (.lit 32)) (.vs 20 64 (.cons (.bin .add .i64 (.var 84) (.lit 1)) (.cons (.bin .add .i64 (.var 84) (.lit 1)) (.consl (.ldrop (.lvar 86) (.lit 1)) (.consl (.lapp (.lvar 87) (.cons (.get (.lvar 1) (.var 84) 8) (.cons (.get (.lvar 86) (.lit 0) 0) (.cons (.conv .i64 (.len (.ldrop (.ltake (.lapp (.lapp (.lapp (.lapp (.lapp (.lapp (.lapp (.lapp (.lapp (.lapp (.lapp .lnil (.cons (.var 8) .nil)) (.cons (.var 9) .nil)) (.cons (.var 10) .nil)) (.cons (.var 11) .nil)) (.cons (.var 12) .nil)) (.cons (.var 13) .nil)) (.cons (.var 14) .nil)) (.cons (.var 15) .nil)) (.cons (.var 16) .nil)) (.cons (.var 17) .nil)) (.cons (.var 18) .nil)) (.bin .add .i64 (.lit 1) (.var 91))) (.lit 1)))) (.cons (.get (.ldrop (.ltake (.lapp (.lapp (.lapp (.lapp (.lapp (.lapp (.lapp (.lapp (.lapp (.lapp (.lapp .lnil (.cons (.var 8) .nil)) (.cons (.var 9) .nil)) (.cons (.var 10) .nil)) (.cons (.var 11) .nil)) (.cons (.var 12) .nil)) (.cons (.var 13) .nil)) (.cons (.var 14) .nil)) (.cons (.var 15) .nil)) (.cons (.var 16) .nil)) (.cons (.var 17) .nil)) (.cons (.var 18) .nil)) (.bin .add .i64 (.lit 1) (.var 91))) (.lit 1)) (.lit 0) 0) (.cons (.get (.ldrop (.ltake (.lapp (.lapp (.lapp (.lapp (.lapp (.lapp (.lapp (.lapp (.lapp (.lapp (.lapp .lnil (.cons (.var 8) .nil)) (.cons (.var 9) .nil)) (.cons (.var 10) .nil)) (.cons (.var 11) .nil)) (.cons (.var 12) .nil)) (.cons (.var 13) .nil)) (.cons (.var 14) .nil)) (.cons (.var 15) .nil)) (.cons (.var 16) .nil)) (.cons (.var 17) .nil)) (.cons (.var 18) .nil)) (.bin .add .i64 (.lit 1) (.var 91))) (.lit 1)) (.lit 1) 0) (.cons (.get (.ldrop (.ltake (.lapp (.lapp (.lapp (.lapp (.lapp (.lapp (.lapp (.lapp (.lapp (.lapp (.lapp .lnil (.cons (.var 8) .nil)) (.cons (.var 9) .nil)) (.cons (.var 10) .nil)) (.cons (.var 11) .nil)) (.cons (.var 12) .nil)) (.cons (.var 13) .nil)) (.cons (.var 14) .nil)) (.cons (.var 15) .nil)) (.cons (.var 16) .nil)) (.cons (.var 17) .nil)) (.cons (.var 18) .nil)) (.bin .add .i64 (.lit 1) (.var 91))) (.lit 1)) (.lit 2) 0) (.cons (.get (.ldrop (.ltake (.lapp (.lapp (.lapp (.lapp (.lapp (.lapp (.lapp (.lapp (.lapp (.lapp (.lapp .lnil (.cons (.var 8) .nil)) (.cons (.var 9) .nil)) (.cons (.var 10) .nil)) (.cons (.var 11) .nil)) (.cons (.var 12) .nil)) (.cons (.var 13) .nil)) (.cons (.var 14) .nil)) (.cons (.var 15) .nil)) (.cons (.var 16) .nil)) (.cons (.var 17) .nil)) (.cons (.var 18) .nil)) (.bin .add .i64 (.lit 1) (.var 91))) (.lit 1)) (.lit 3) 0) (.cons (.get (.ldrop (.ltake (.lapp (.lapp (.lapp (.lapp (.lapp (.lapp (.lapp (.lapp (.lapp (.lapp (.lapp .lnil (.cons (.var 8) .nil)) (.cons (.var 9) .nil)) (.cons (.var 10) .nil)) (.cons (.var 11) .nil)) (.cons (.var 12) .nil)) (.cons (.var 13) .nil)) (.cons (.var 14) .nil)) (.cons (.var 15) .nil)) (.cons (.var 16) .nil)) (.cons (.var 17) .nil)) (.cons (.var 18) .nil)) (.bin .add .i64 (.lit 1) (.var 91))) (.lit 1)) (.lit 4) 0) .nil))))))))) (.consl (.lvar 88) (.consl (.lvar 89) .nil))))))))))))))))))
.panic))
.panic)))))
(.br (.eq (.get (.lvar 1) (.var 84) 0) (.lit 6))
(.call 2 [.sl [some .u8] 5] (.cons (.lit 1048576) (.consl (.lrep (.lit 0) (.cons (.lit 0) .nil)) (.consb (.tt false) (.cons (.lit 2097152) (.consl (.lvar 88) (.consb (.tt true) (.cons (.lit 3145728) (.consl (.lvar 89) (.consb (.tt true) (.cons (.lit 4194304) (.consl .lnil (.consb (.tt true) .nil)))))))))))) 91
(.leaf (.cons (.lit 1) (.cons (.var 8) (.consl (.lvar 91) (.consl (.lvar 87) (.cons (.bin .sub .i64 (.var 7) (.lit 1)) (.cons (.lit 0) .nil))))))))
.panic)))))))
(.call 2 [.sl [some .u8] 5] (.cons (.lit 1048576) (.consl (.lrep (.lit 0) (.cons (.lit 0) .nil)) (.consb (.tt false) (.cons (.lit 2097152) (.consl (.lvar 88) (.consb (.tt true) (.cons (.lit 3145728) (.consl (.lvar 89) (.consb (.tt true) (.cons (.lit 4194304) (.consl .lnil (.consb (.tt true) .nil)))))))))))) 91
(.leaf (.cons (.lit 3) (.cons (.lit 0) (.consl (.lvar 91) (.consl (.lvar 87) (.cons (.bin .sub .i64 (.var 7) (.lit 1)) (.cons (.lit 0) .nil))))))))))
.panic))
(.call 2 [.sl [some .u8] 5] (.cons (.lit 1048576) (.consl (.lrep (.lit 0) (.cons (.lit 0) .nil)) (.consb (.tt false) (.cons (.lit 2097152) (.consl (.lvar 88) (.consb (.tt true) (.cons (.lit 3145728) (.consl (.lvar 89) (.consb (.tt true) (.cons (.lit 4194304) (.consl .lnil (.consb (.tt true) .nil)))))))))))) 90
(.leaf (.cons (.lit 0) (.cons (.lit 0) (.consl (.lvar 90) (.consl (.lvar 87) (.cons (.var 7) (.cons (.lit 0) .nil))))))))))
.panic))))
(.leaf (.cons (.lit 0) (.cons (.lit 0) (.consl .lnil (.consl .lnil (.cons (.lit 0) (.cons (.lit 2) .nil))))))))
(.leaf (.cons (.lit 0) (.cons (.lit 0) (.consl .lnil (.consl .lnil (.cons (.lit 0) (.cons (.var 6) .nil)))))))))
def vu:Spec:=⟨fun k=>match k with | 0=>dh | 1=>fg | 2=>fh | 3=>ct | 4=>dl | 5=>cg | 6=>dU | 7=>sF_holds | 8=>dg | 9=>cr | _=>fun _=>[],fun k=>match k with | 1=>ff | 2=>dM | 3=>bS | 8=>cH | 9=>cq | _=>fun _=>True⟩
set_option maxRecDepth 100000 in
theorem aaE:aM tys_MoC [jw 0,lU 1,lV 2,fP 3,jE 4,fQ 5,gM 6,sM_holds 7,iP 8,fO 9] [(38,Try.f38,[(999999,[]),(999998,[])],[]),(58,Try.f58,[(999999,[]),(999998,[])],[]),(59,Try.f59,[(999999,[]),(999998,[])],[]),(60,Try.f60,[(999999,[]),(999998,[])],[]),(61,Try.f61,[(999999,[]),(999998,[])],[]),(62,Try.f62,[(999999,[]),(999998,[])],[]),(63,Try.f63,[(999999,[]),(999998,[])],[]),(64,Try.f64,[(999999,[]),(999998,[])],[]),(36,Try.f36,[(999999,[]),(999998,[])],[]),(77,Try.f77,[(3,[.tmpI 21 .i64,.row 12,.row 13,.top 22,.top 23,.top 11,.top 24,.top 25,.top 26,.top 27,.top 28,.top 29,.top 30,.top 31,.top 32]),(999999,[]),(999998,[])],[]),(88,Try.f88,[(999999,[]),(999998,[])],[(5,[.top 15,.top 18,.top 16,.top 17,.top 8,.top 9,.top 19,.top 20,.top 21,.top 22,.top 23,.top 24,.top 25,.top 26,.top 27,.top 28,.top 29,.top 30,.top 31,.top 32]),(13,[.top 13,.top 14,.top 35,.top 10,.top 36,.top 37,.top 38,.top 39,.top 40,.top 11,.top 41,.top 42,.top 12,.top 44,.top 45,.top 46,.top 47,.top 43,.top 48,.top 49,.top 50,.top 51,.top 52,.top 53,.top 54,.top 55,.top 56,.top 57,.top 58,.top 59,.top 60,.top 61,.top 8,.top 9])]),(105,Try.f105,[(999999,[]),(999998,[])],[(3,[.tmpB 43,.top 15,.top 16,.top 17,.top 18,.top 19,.top 20,.top 21,.top 22,.top 23,.top 24,.top 25,.top 26,.top 27,.top 28,.top 29,.top 30,.top 31,.top 32,.top 33,.top 34,.top 35,.top 36,.top 37,.top 38,.top 39,.top 40,.top 41,.top 42])]),(78,Try.f78,[(999999,[]),(999998,[])],[]),(39,Try.f39,[(999999,[]),(999998,[])],[]),(57,Try.f57,[(999999,[]),(999998,[])],[]),(23,Try.f23,[(999999,[]),(999998,[])],[]),(35,Try.f35,[(999999,[]),(999998,[])],[]),(24,Try.f24,[(999999,[]),(999998,[])],[]),(37,Try.f37,[(2,[.celI 4 4 .i64,.cels 14 3 [some .u64,some .u64,some .u64,some .u64,some .u64,some .u64,some .u64,some .u64,some .u64,some .u64,some .u64,some .i64,some .u8,some .u8,some .u8,some .u8,some .u8,some .u8,some .u8,some .u8,some .u8,some .u8,some .u8,some .u8,some .u8,some .u8,some .u8,some .u8,some .u8,some .u8,some .u8,some .u8,some .u8,some .u8,some .u8,some .u8,some .u8,some .u8,some .u8,some .u8,some .u8,some .u8,some .u8,some .u8,some .u8,some .u8,some .u8,some .u8,some .u8,some .u8,some .u8,some .u8,some .u8,some .u8,some .u8,some .u8,some .u8,some .u8,some .u8,some .u8,some .u8,some .u8,some .u8,some .u8,some .u8,some .u8,some .u8,some .u8,some .u8,some .u8,some .u8,some .u8,some .u8,some .u8,some .u8,some .u8,some .i64,some .i64],.celV 14 81 [some .u64] 30,.celS 14 82 evKs 39,.row 12,.row 13,.top 11,.top 12,.top 13,.top 14,.top 15,.top 16,.top 17,.top 18,.top 19,.top 20,.top 21,.top 22,.top 23,.top 24,.top 25,.top 26,.top 27,.top 28,.top 29,.top 30,.top 31,.top 32,.top 33]),(999999,[]),(999998,[])],[])] [(999999,[]),(999998,[])] [] 200 Try.f11 [.agg kD,.one (.sl [some .u8] 5),.one (.sl [some .u64] 30),.one (.int .i64)] [.agg kOut,.one (.int .i64)] true [.int .i64,.list [some .i8,some .i8,some .i8,some .i8,none,some .i8,some .i8,some .i64,some .i64],.list [some .u8],.list [some .u64],.int .i64] sT_mrun:=⟨by kernel_rfl,by kernel_rfl,by kernel_rfl⟩
def gJ:List Dt→Prop
 | [.z x0,.l x1,.l x2,.l x3,.z x4]=>let f (p:Prog) (cx:List (List Int)) (an:List (List Int)) (fu:Int):Prop:=(p.l.length≤maxLen∧cx.length≤maxLen)∧an.length≤maxLen; f ⟨x0,x1⟩ x2 x3 x4
 | _=>False
set_option maxRecDepth 100000 in
set_option maxHeartbeats 8000000 in
theorem aat (p:Prog) (hp:Prog.ok p) (cx:List (List Int)) (hcx:RowsIn [some .u8] cx) (an:List (List Int)) (han:RowsIn [some .u64] an) (fu:Int) (hfu:inK .i64 fu=true) (hp:gJ [.z p.ctx,.l p.l,.l cx,.l an,.z fu]) (ρ:Env) (g:ah ρ 0 [.int .i64,.list [some .i8,some .i8,some .i8,some .i8,none,some .i8,some .i8,some .i64,some .i64],.list [some .u8],.list [some .u64],.int .i64]=[.z p.ctx,.l p.l,.l cx,.l an,.z fu]):sT_mrun.asks vu (fun ρ e=>e.D ρ=jF [.z p.ctx,.l p.l,.l cx,.l an,.z fu]) ρ fun _ _=>False:=by
 simp only[gJ,b2i_one,Ins.eta,Prog.eta,aa,Mem.eta,Mach.eta] at hp
 simp only[ah,varD,List.cons.injEq,Dt.z.injEq,Dt.l.injEq,b2i_eq_iff,Nat.reduceAdd,and_true] at g
 simp only[sT_mrun,vu,dh,fg,fh,ct,dl,cg,dU,sF_holds,dg,cr,jl,lQ,lR,fL,jt,fM,gI,sV_holds,iL,fK,jF,pf,ff,dM,bS,cH,cq,Tr.asks,am,okDs,okD,eqs,E.I,E.B,E.L,E.R,E.D,E.vs,dI,dB,dL,varD,ah,List.getElem?_cons_zero,List.getElem?_cons_succ,List.cons_append,List.nil_append,Nat.zero_add,Nat.add_zero,Nat.reduceAdd,and_true,true_and,b2i_one,-eq_self,Ins.eta,Prog.eta,aa,Mem.eta,Mach.eta,g]
 obtain⟨k0_i0,k0_l1,k0_l2,k0_l3,k0_i4⟩:=g
 refine⟨?_,?_⟩
 ·exact hp.1.1
 intro e; (try simp only[e,Ins.eta,Prog.eta,aa,Mem.eta,Mach.eta,-eq_self]); clear e
 refine⟨fun c0=> ?_,fun c0=> ?_⟩
 refine⟨fun c1=> ?_,fun c1=> ?_⟩
 refine⟨fun c2=> ?_,fun c2=> ?_⟩
 ·have e:mrun p cx an fu=_:=ef (dr (eqI c0) (.inr (.inl (of_decide_eq_true c2)))) (by decide)
  rw[e]
 refine⟨fun c3=> ?_,fun c3=> ?_⟩
 ·have e:mrun p cx an fu=_:=ef (dr (eqI c0) (.inr (.inr (of_decide_eq_true c3)))) (by decide)
  rw[e]
 refine⟨fun c4=> ?_,fun c4=> ?_⟩
 ·exact absurd (of_decide_eq_true c4) (by have:=kh (eqI c0); have:=eqI c1; omega)
 refine⟨fun c5=> ?_,fun c5=> ?_⟩
 have hok:=eqI c0
 have hf:0≤fu∧fu≤10000:=by have:=of_decide_eq_false c2; have:=of_decide_eq_false c3; omega
 have hcx:cx.length≤256:=by have:=of_decide_eq_false c4; omega
 have hI:=cA hp.1.1 hok
 have hop:bq p cx fu=0:=py hok (eqI c1) hf.1 hf.2
 refine⟨fun ds=>RunAt p cx an fu (dI ds 0) (msD ds 0),fun ds=>(dI ds 0).toNat,RunAt.init hf.1 hI.1.2.1,?_⟩
 intro ρ1 ha1 hx1 hi1
 clear hx1
 have hR:RunAt p cx an fu (ρ1.i 7) ⟨[ρ1.i 8,ρ1.i 9,ρ1.i 10,ρ1.i 11,ρ1.i 12,ρ1.i 13,ρ1.i 14,ρ1.i 15,ρ1.i 16,ρ1.i 17,ρ1.i 18],ρ1.i 19,ρ1.i 84,ρ1.l 86,ρ1.l 87,ρ1.l 88,ρ1.l 89⟩:=hi1
 clear hi1
 obtain⟨left,k1_i7⟩:∃z,ρ1.i 7=z:=⟨_,rfl⟩
 obtain⟨r0,k1_i8⟩:∃z,ρ1.i 8=z:=⟨_,rfl⟩
 obtain⟨r1,k1_i9⟩:∃z,ρ1.i 9=z:=⟨_,rfl⟩
 obtain⟨r2,k1_i10⟩:∃z,ρ1.i 10=z:=⟨_,rfl⟩
 obtain⟨r3,k1_i11⟩:∃z,ρ1.i 11=z:=⟨_,rfl⟩
 obtain⟨r4,k1_i12⟩:∃z,ρ1.i 12=z:=⟨_,rfl⟩
 obtain⟨r5,k1_i13⟩:∃z,ρ1.i 13=z:=⟨_,rfl⟩
 obtain⟨r6,k1_i14⟩:∃z,ρ1.i 14=z:=⟨_,rfl⟩
 obtain⟨r7,k1_i15⟩:∃z,ρ1.i 15=z:=⟨_,rfl⟩
 obtain⟨r8,k1_i16⟩:∃z,ρ1.i 16=z:=⟨_,rfl⟩
 obtain⟨r9,k1_i17⟩:∃z,ρ1.i 17=z:=⟨_,rfl⟩
 obtain⟨r10,k1_i18⟩:∃z,ρ1.i 18=z:=⟨_,rfl⟩
 obtain⟨st,k1_i19⟩:∃z,ρ1.i 19=z:=⟨_,rfl⟩
 obtain⟨pc,k1_i84⟩:∃z,ρ1.i 84=z:=⟨_,rfl⟩
 obtain⟨a1,k1_l86⟩:∃z,ρ1.l 86=z:=⟨_,rfl⟩
 obtain⟨t1,k1_l87⟩:∃z,ρ1.l 87=z:=⟨_,rfl⟩
 obtain⟨c1,k1_l88⟩:∃z,ρ1.l 88=z:=⟨_,rfl⟩
 obtain⟨f1,k1_l89⟩:∃z,ρ1.l 89=z:=⟨_,rfl⟩
 simp only[k1_i7,k1_i8,k1_i9,k1_i10,k1_i11,k1_i12,k1_i13,k1_i14,k1_i15,k1_i16,k1_i17,k1_i18,k1_i19,k1_i84,k1_l86,k1_l87,k1_l88,k1_l89] at hR
 have k1_l1:=kL ha1 k0_l1
 have h256:c1.length≤256:=by have:=hR.cxl; exact Nat.le_trans (Nat.le_of_eq this) hcx
 have hfit:=zS h256 hR.fm
 have q0:0≤pc:=hR.pc0
 have q1:pc<(p.l.length:Int):=hR.pc1
 have q2:f1.length=64:=hR.fm
 have q4:(t1.length:Int)+left≤fu:=hR.tr
 have q5:=hR.lo
 have q6:=hR.hi
 simp only[k1_l1,k1_i7,k1_i8,k1_i9,k1_i10,k1_i11,k1_i12,k1_i13,k1_i14,k1_i15,k1_i16,k1_i17,k1_i18,k1_i19,k1_i84,k1_l86,k1_l87,k1_l88,k1_l89,aa,-eq_self]
 refine⟨fun c6=> ?_,fun c6=> ?_⟩
 refine⟨fun c7=> ?_,fun c7=> ?_⟩
 ·exact absurd (of_decide_eq_true c7) (by omega)
 refine⟨fun c8=> ?_,fun c8=> ?_⟩
 refine⟨?_,?_⟩
 ·exact aj hp.1.1 hok hR.pc0 hR.pc1
 intro e; (try simp only[e,Ins.eta,Prog.eta,aa,Mem.eta,Mach.eta,-eq_self]); clear e
 refine⟨fun c9=> ?_,fun c9=> ?_⟩
 refine⟨fun c10=> ?_,fun c10=> ?_⟩
 refine⟨fun c11=> ?_,fun c11=> ?_⟩
 ·have hmay:=aj hp.1.1 hok q0 q1
  have hd:=aK hmay
  exact absurd (of_decide_eq_true c11) (by omega)
 refine⟨fun c12=> ?_,fun c12=> ?_⟩
 refine⟨?_,?_⟩
 ·exact fun _=>(by have hd:=aZ (aj hp.1.1 hok hR.pc0 hR.pc1); exact⟨hd.2.2.1,hd.2.2.2.1⟩)
 intro e; (try simp only[e,Ins.eta,Prog.eta,aa,Mem.eta,Mach.eta,-eq_self]); clear e
 intro e; (try simp only[e,Ins.eta,Prog.eta,aa,Mem.eta,Mach.eta,-eq_self]); clear e
 ·have hmay:=aj hp.1.1 hok q0 q1
  have hd:=aK hmay
  have hk:(ae p.l pc).k=0:=eqI c10
  have hw:opI .andNot .i64 (ai (ae p.l pc)) st=0:=eqI c9
  exact RunAt.go hR hp.1.1 hok hf.2 (of_decide_eq_true c6) (dD hw (.inl hk)) (go11 (abk hk) hd.1 hd.2.1) rfl
 ·have hmay:=aj hp.1.1 hok q0 q1
  have hd:=aK hmay
  exact absurd (of_decide_eq_false c12) (by omega)
 refine⟨fun c13=> ?_,fun c13=> ?_⟩
 refine⟨fun c14=> ?_,fun c14=> ?_⟩
 ·have hmay:=aj hp.1.1 hok q0 q1
  have hd:=aK hmay
  exact absurd (of_decide_eq_true c14) (by omega)
 refine⟨fun c15=> ?_,fun c15=> ?_⟩
 intro e; have k1_i91:ρ1.i 91=IntKind.u64.wrap (gt p.l pc 7):=e.trans (by simp only[k1_l1,k1_i84]); (try simp only[e,Ins.eta,Prog.eta,aa,Mem.eta,Mach.eta,-eq_self]); clear e
 refine⟨?_,?_⟩
 ·exact hfit
 intro e; (try simp only[e,Ins.eta,Prog.eta,aa,Mem.eta,Mach.eta,-eq_self]); clear e
 refine⟨fun c16=> ?_,fun c16=> ?_⟩
 refine⟨fun c17=> ?_,fun c17=> ?_⟩
 ·have hmay:=aj hp.1.1 hok q0 q1
  have hd:=aK hmay
  exact absurd (of_decide_eq_true c17) (by omega)
 refine⟨fun c18=> ?_,fun c18=> ?_⟩
 ·have hmay:=aj hp.1.1 hok q0 q1
  have hd:=aK hmay
  have hk:(ae p.l pc).k=1:=eqI c13
  have hw:opI .andNot .i64 (ai (ae p.l pc)) st=0:=eqI c9
  have h16:=eqI c16
  exact RunAt.go hR hp.1.1 hok hf.2 (of_decide_eq_true c6) (pO hw hk h16) (go11 (abj hk) hd.1 hd.2.1) rfl
 ·have hmay:=aj hp.1.1 hok q0 q1
  have hd:=aK hmay
  exact absurd (of_decide_eq_false c18) (by omega)
 refine⟨?_,?_⟩
 ·exact hfit
 intro e; (try simp only[e,Ins.eta,Prog.eta,aa,Mem.eta,Mach.eta,-eq_self]); clear e
 ·have hk:(ae p.l pc).k=1:=eqI c13
  have hw:opI .andNot .i64 (ai (ae p.l pc)) st=0:=eqI c9
  have h16:=neI c16
  have e:mrun p cx an fu=_:=bQ hop hR hf.2 (of_decide_eq_true c6) (pN hw hk h16) (by decide)
  rw[e]
  rfl
 ·have hmay:=aj hp.1.1 hok q0 q1
  have hd:=aK hmay
  exact absurd (of_decide_eq_false c15) (by omega)
 refine⟨fun c19=> ?_,fun c19=> ?_⟩
 refine⟨fun c20=> ?_,fun c20=> ?_⟩
 ·have hmay:=aj hp.1.1 hok q0 q1
  have hd:=aK hmay
  exact absurd (of_decide_eq_true c20) (by omega)
 refine⟨fun c21=> ?_,fun c21=> ?_⟩
 intro e; have k1_i91:ρ1.i 91=IntKind.u64.wrap (gt p.l pc 7):=e.trans (by simp only[k1_l1,k1_i84]); (try simp only[e,Ins.eta,Prog.eta,aa,Mem.eta,Mach.eta,-eq_self]); clear e
 refine⟨fun c22=> ?_,fun c22=> ?_⟩
 ·have hmay:=aj hp.1.1 hok q0 q1
  have hd:=aK hmay
  exact absurd (of_decide_eq_true c22) (by omega)
 refine⟨fun c23=> ?_,fun c23=> ?_⟩
 have hmay:=aj hp.1.1 hok q0 q1
 have hd:=aK hmay
 have hk:(ae p.l pc).k=2:=eqI c19
 obtain⟨a,ea⟩:∃a,opI .add .u64 (([r0,r1,r2,r3,r4,r5,r6,r7,r8,r9,r10]:List Int).getD (gt p.l pc 5).toNat 0) (IntKind.u64.wrap (gt p.l pc 7))=a:=⟨_,rfl⟩
 obtain⟨n,en⟩:∃n,IntKind.i64.wrap (gt p.l pc 3)=n:=⟨_,rfl⟩
 obtain⟨v,ev⟩:∃v,([r0,r1,r2,r3,r4,r5,r6,r7,r8,r9,r10]:List Int).getD (gt p.l pc 6).toNat 0=v:=⟨_,rfl⟩
 have hs:aJ n=true:=en▸gG hmay (.inr hk)
 have ha:inK .u64 a=true:=ea▸eD _ _
 have hn3:=aI hs
 have h1:1≤n:=by omega
 have h8:n≤8:=by omega
 simp only[k1_l1,k1_i7,k1_i8,k1_i9,k1_i10,k1_i11,k1_i12,k1_i13,k1_i14,k1_i15,k1_i16,k1_i17,k1_i18,k1_i19,k1_i84,k1_l86,k1_l87,k1_l88,k1_l89,k1_i91,ea,en,ev,-eq_self]
 refine⟨fun ds=>ds=[],?_,?_⟩
 refine⟨fun c24=> ?_,fun c24=> ?_⟩
 ·rfl
 refine⟨fun c25=> ?_,fun c25=> ?_⟩
 ·rfl
 refine⟨fun c26=> ?_,fun c26=> ?_⟩
 ·rfl
 refine⟨fun c27=> ?_,fun c27=> ?_⟩
 ·rfl
 refine⟨fun _=>False,fun _=>0,absurd hs (by simp[aJ,neI c24,neI c25,neI c26,neI c27]),?_⟩
 intro ρ2 ha2 _ hif
 refine⟨fun c28=> ?_,fun c28=> ?_⟩
 refine⟨fun c29=> ?_,fun c29=> ?_⟩
 ·exact hif.elim
 ·exact hif.elim
 refine⟨fun c30=> ?_,fun c30=> ?_⟩
 refine⟨fun c31=> ?_,fun c31=> ?_⟩
 refine⟨?_,?_⟩
 ·exact hif.elim
 intro e; (try simp only[e,Ins.eta,Prog.eta,aa,Mem.eta,Mach.eta,-eq_self]); clear e
 ·exact hif.elim
 ·exact hif.elim
 ·exact hif.elim
 intro ρ2 ha2 _ _
 have k2_l1:=kL ha2 k1_l1
 have k2_i7:=kI ha2 k1_i7
 have k2_i8:=kI ha2 k1_i8
 have k2_i9:=kI ha2 k1_i9
 have k2_i10:=kI ha2 k1_i10
 have k2_i11:=kI ha2 k1_i11
 have k2_i12:=kI ha2 k1_i12
 have k2_i13:=kI ha2 k1_i13
 have k2_i14:=kI ha2 k1_i14
 have k2_i15:=kI ha2 k1_i15
 have k2_i16:=kI ha2 k1_i16
 have k2_i17:=kI ha2 k1_i17
 have k2_i18:=kI ha2 k1_i18
 have k2_i19:=kI ha2 k1_i19
 have k2_i84:=kI ha2 k1_i84
 have k2_l86:=kL ha2 k1_l86
 have k2_l87:=kL ha2 k1_l87
 have k2_l88:=kL ha2 k1_l88
 have k2_l89:=kL ha2 k1_l89
 have k2_i91:=kI ha2 k1_i91
 simp only[k2_l1,k2_i7,k2_i8,k2_i9,k2_i10,k2_i11,k2_i12,k2_i13,k2_i14,k2_i15,k2_i16,k2_i17,k2_i18,k2_i19,k2_i84,k2_l86,k2_l87,k2_l88,k2_l89,k2_i91,ea,en,ev,-eq_self]
 refine⟨fun ds=>ds=[],?_,?_⟩
 refine⟨fun ds=>ds=[.z (b2i (!inr 1048576 [] a n))],?_,?_⟩
 refine⟨fun c32=> ?_,fun c32=> ?_⟩
 ·exact congrArg (fun z=>[Dt.z (b2i z)]) (dC c32)
 refine⟨fun c33=> ?_,fun c33=> ?_⟩
 ·exact congrArg (fun z=>[Dt.z (b2i z)]) (cb (l:=[]) ha (by decide) h1 c32 (by decide) c33)
 ·rw[wrU (a:=n) (by omega) (by omega)]
  exact congrArg (fun z=>[Dt.z (b2i z)]) (bw (l:=[]) ha (by decide) h1 h8 c32 (by decide) c33)
 intro ρ3 ha3 _ hi3
 simp only[List.cons.injEq,Dt.z.injEq,Dt.l.injEq,b2i_eq_iff,and_true] at hi3
 have k3_b92:=hi3
 have k3_l1:=kL ha3 k2_l1
 have k3_i7:=kI ha3 k2_i7
 have k3_i8:=kI ha3 k2_i8
 have k3_i9:=kI ha3 k2_i9
 have k3_i10:=kI ha3 k2_i10
 have k3_i11:=kI ha3 k2_i11
 have k3_i12:=kI ha3 k2_i12
 have k3_i13:=kI ha3 k2_i13
 have k3_i14:=kI ha3 k2_i14
 have k3_i15:=kI ha3 k2_i15
 have k3_i16:=kI ha3 k2_i16
 have k3_i17:=kI ha3 k2_i17
 have k3_i18:=kI ha3 k2_i18
 have k3_i19:=kI ha3 k2_i19
 have k3_i84:=kI ha3 k2_i84
 have k3_l86:=kL ha3 k2_l86
 have k3_l87:=kL ha3 k2_l87
 have k3_l88:=kL ha3 k2_l88
 have k3_l89:=kL ha3 k2_l89
 have k3_i91:=kI ha3 k2_i91
 simp only[k3_l1,k3_i7,k3_i8,k3_i9,k3_i10,k3_i11,k3_i12,k3_i13,k3_i14,k3_i15,k3_i16,k3_i17,k3_i18,k3_i19,k3_i84,k3_l86,k3_l87,k3_l88,k3_l89,k3_i91,k3_b92,ea,en,ev,-eq_self]
 refine⟨fun c34=> ?_,fun c34=> ?_⟩
 ·rfl
 refine⟨fun c35=> ?_,fun c35=> ?_⟩
 ·exact absurd c34 (by simp[ca h1])
 refine⟨fun c36=> ?_,fun c36=> ?_⟩
 ·exact absurd c34 (by simp[ca h1])
 refine⟨fun c37=> ?_,fun c37=> ?_⟩
 ·exact absurd c34 (by simp[ca h1])
 ·exact absurd c34 (by simp[ca h1])
 intro ρ3 ha3 _ _
 have k3_l1:=kL ha3 k2_l1
 have k3_i7:=kI ha3 k2_i7
 have k3_i8:=kI ha3 k2_i8
 have k3_i9:=kI ha3 k2_i9
 have k3_i10:=kI ha3 k2_i10
 have k3_i11:=kI ha3 k2_i11
 have k3_i12:=kI ha3 k2_i12
 have k3_i13:=kI ha3 k2_i13
 have k3_i14:=kI ha3 k2_i14
 have k3_i15:=kI ha3 k2_i15
 have k3_i16:=kI ha3 k2_i16
 have k3_i17:=kI ha3 k2_i17
 have k3_i18:=kI ha3 k2_i18
 have k3_i19:=kI ha3 k2_i19
 have k3_i84:=kI ha3 k2_i84
 have k3_l86:=kL ha3 k2_l86
 have k3_l87:=kL ha3 k2_l87
 have k3_l88:=kL ha3 k2_l88
 have k3_l89:=kL ha3 k2_l89
 have k3_i91:=kI ha3 k2_i91
 simp only[k3_l1,k3_i7,k3_i8,k3_i9,k3_i10,k3_i11,k3_i12,k3_i13,k3_i14,k3_i15,k3_i16,k3_i17,k3_i18,k3_i19,k3_i84,k3_l86,k3_l87,k3_l88,k3_l89,k3_i91,ea,en,ev,-eq_self]
 refine⟨fun ds=>ds=[]∧inr 2097152 c1 a n=false,?_,?_⟩
 refine⟨fun ds=>ds=[.z (b2i (!inr 2097152 c1 a n))],?_,?_⟩
 refine⟨fun c38=> ?_,fun c38=> ?_⟩
 ·exact congrArg (fun z=>[Dt.z (b2i z)]) (dC c38)
 refine⟨fun c39=> ?_,fun c39=> ?_⟩
 ·exact congrArg (fun z=>[Dt.z (b2i z)]) (cb (l:=c1) ha (by decide) h1 c38 (Nat.le_trans h256 (by decide)) c39)
 ·rw[wrU (a:=n) (by omega) (by omega)]
  exact congrArg (fun z=>[Dt.z (b2i z)]) (bw (l:=c1) ha (by decide) h1 h8 c38 (Nat.le_trans h256 (by decide)) c39)
 intro ρ4 ha4 _ hi4
 simp only[List.cons.injEq,Dt.z.injEq,Dt.l.injEq,b2i_eq_iff,and_true] at hi4
 have k4_b92:=hi4
 have k4_l1:=kL ha4 k3_l1
 have k4_i7:=kI ha4 k3_i7
 have k4_i8:=kI ha4 k3_i8
 have k4_i9:=kI ha4 k3_i9
 have k4_i10:=kI ha4 k3_i10
 have k4_i11:=kI ha4 k3_i11
 have k4_i12:=kI ha4 k3_i12
 have k4_i13:=kI ha4 k3_i13
 have k4_i14:=kI ha4 k3_i14
 have k4_i15:=kI ha4 k3_i15
 have k4_i16:=kI ha4 k3_i16
 have k4_i17:=kI ha4 k3_i17
 have k4_i18:=kI ha4 k3_i18
 have k4_i19:=kI ha4 k3_i19
 have k4_i84:=kI ha4 k3_i84
 have k4_l86:=kL ha4 k3_l86
 have k4_l87:=kL ha4 k3_l87
 have k4_l88:=kL ha4 k3_l88
 have k4_l89:=kL ha4 k3_l89
 have k4_i91:=kI ha4 k3_i91
 simp only[k4_l1,k4_i7,k4_i8,k4_i9,k4_i10,k4_i11,k4_i12,k4_i13,k4_i14,k4_i15,k4_i16,k4_i17,k4_i18,k4_i19,k4_i84,k4_l86,k4_l87,k4_l88,k4_l89,k4_i91,k4_b92,ea,en,ev,-eq_self]
 refine⟨fun c40=> ?_,fun c40=> ?_⟩
 ·exact⟨rfl,by simpa using c40⟩
 refine⟨fun c41=> ?_,fun c41=> ?_⟩
 ·have fr:inr 2097152 c1 a n=true:=by simpa using c40
  have W:=Win.of fr ha (by decide) (Nat.le_trans h256 (by decide)) h1 h8
  have w1:=W.lo; have w2:=W.hi; have w3:=W.len
  simp only[W.sub,W.cv,W.add] at c41
  exact absurd (of_decide_eq_true c41) (by omega)
 refine⟨fun c42=> ?_,fun c42=> ?_⟩
 ·have fr:inr 2097152 c1 a n=true:=by simpa using c40
  have W:=Win.of fr ha (by decide) (Nat.le_trans h256 (by decide)) h1 h8
  have w1:=W.lo; have w2:=W.hi; have w3:=W.len
  simp only[W.sub,W.cv,W.add] at c42
  exact absurd (of_decide_eq_true c42) (by omega)
 refine⟨fun c43=> ?_,fun c43=> ?_⟩
 ·have fr:inr 2097152 c1 a n=true:=by simpa using c40
  have W:=Win.of fr ha (by decide) (Nat.le_trans h256 (by decide)) h1 h8
  have w1:=W.lo; have w2:=W.hi; have w3:=W.len
  simp only[W.sub,W.cv,W.add] at c43
  exact absurd (of_decide_eq_true c43) (by omega)
 have fr:inr 2097152 c1 a n=true:=by simpa using c40
 have W:=Win.of fr ha (by decide) (Nat.le_trans h256 (by decide)) h1 h8
 refine⟨fun ds=>∃k:Nat,ds=[.z (k:Int),.l (putL c1 (a-2097152).toNat v k),.l f1]∧k≤n.toNat,fun ds=>n.toNat-(dI ds 0).toNat,⟨0,rfl,Nat.zero_le _⟩,?_⟩
 intro ρ5 ha5 _ hi5
 obtain⟨k,hds,hk2⟩:=hi5
 simp only[List.cons.injEq,Dt.z.injEq,Dt.l.injEq,b2i_eq_iff,and_true] at hds
 obtain⟨k5_i93,k5_l94,k5_l95⟩:=hds
 have k5_l1:=kL ha5 k4_l1
 have k5_i7:=kI ha5 k4_i7
 have k5_i8:=kI ha5 k4_i8
 have k5_i9:=kI ha5 k4_i9
 have k5_i10:=kI ha5 k4_i10
 have k5_i11:=kI ha5 k4_i11
 have k5_i12:=kI ha5 k4_i12
 have k5_i13:=kI ha5 k4_i13
 have k5_i14:=kI ha5 k4_i14
 have k5_i15:=kI ha5 k4_i15
 have k5_i16:=kI ha5 k4_i16
 have k5_i17:=kI ha5 k4_i17
 have k5_i18:=kI ha5 k4_i18
 have k5_i19:=kI ha5 k4_i19
 have k5_i84:=kI ha5 k4_i84
 have k5_l86:=kL ha5 k4_l86
 have k5_l87:=kL ha5 k4_l87
 have k5_l88:=kL ha5 k4_l88
 have k5_l89:=kL ha5 k4_l89
 have k5_i91:=kI ha5 k4_i91
 simp only[k5_l1,k5_i7,k5_i8,k5_i9,k5_i10,k5_i11,k5_i12,k5_i13,k5_i14,k5_i15,k5_i16,k5_i17,k5_i18,k5_i19,k5_i84,k5_l86,k5_l87,k5_l88,k5_l89,k5_i91,k5_i93,k5_l94,k5_l95,ea,en,ev,W.sub,W.cv,W.add,W.win,W.len,-eq_self]
 refine⟨fun c44=> ?_,fun c44=> ?_⟩
 refine⟨fun c45=> ?_,fun c45=> ?_⟩
 ·have hk3:k<n.toNat:=Int.ofNat_lt.1 (of_decide_eq_true c44)
  have w1:=W.lo; have w2:=W.hi; have w3:=W.len
  rw[mulE (by omega)] at c45
  exact absurd (of_decide_eq_true c45) (by omega)
 refine⟨fun c46=> ?_,fun c46=> ?_⟩
 ·have hk3:k<n.toNat:=Int.ofNat_lt.1 (of_decide_eq_true c44)
  have w1:=W.lo; have w2:=W.hi; have w3:=W.len
  rw[au] at c46
  exact absurd (of_decide_eq_true c46) (by omega)
 refine⟨fun c47=> ?_,fun c47=> ?_⟩
 ·have hk3:k<n.toNat:=Int.ofNat_lt.1 (of_decide_eq_true c44)
  have w1:=W.lo; have w2:=W.hi; have w3:=W.len
  exact absurd (of_decide_eq_true c47) (by omega)
 refine⟨fun c48=> ?_,fun c48=> ?_⟩
 refine⟨fun c49=> ?_,fun c49=> ?_⟩
 ·have hk3:k<n.toNat:=Int.ofNat_lt.1 (of_decide_eq_true c44)
  have w1:=W.lo; have w2:=W.hi; have w3:=W.len
  rw[(W.byte (Nat.le_trans h256 (by decide)) hk3).1] at c49
  exact absurd (of_decide_eq_true c49) (by omega)
 refine⟨fun c50=> ?_,fun c50=> ?_⟩
 ·have hk3:k<n.toNat:=Int.ofNat_lt.1 (of_decide_eq_true c44)
  rw[putS W (Nat.le_trans h256 (by decide)) v hk3,addO hk3 (Nat.le_trans (by omega:n.toNat≤8) (by decide))]
  exact⟨⟨k+1,rfl,hk3⟩,by show n.toNat-(((k+1:Nat):Int)).toNat<n.toNat-((k:Int)).toNat; omega⟩
 ·have hk3:k<n.toNat:=Int.ofNat_lt.1 (of_decide_eq_true c44)
  have w1:=W.lo; have w2:=W.hi; have w3:=W.len
  rw[(W.byte (Nat.le_trans h256 (by decide)) hk3).1,au] at c50
  exact absurd (of_decide_eq_false c50) (by omega)
 ·have hk3:k<n.toNat:=Int.ofNat_lt.1 (of_decide_eq_true c44)
  have w1:=W.lo; have w2:=W.hi; have w3:=W.len
  simp only[List.length_drop,List.length_take,au] at c48
  exact absurd (of_decide_eq_false c48) (by omega)
 refine⟨fun c51=> ?_,fun c51=> ?_⟩
 refine⟨fun c52=> ?_,fun c52=> ?_⟩
 ·have hk:(ae p.l pc).k=2:=eqI c19
  have hw:opI .andNot .i64 (ai (ae p.l pc)) st=0:=eqI c9
  obtain rfl:k=n.toNat:=by have:=of_decide_eq_false c44; omega
  have g2:inr 3145728 f1 a n=false:=by
   have:=W.hi; have:=W.lo; unfold inr; rw[decide_eq_false (by omega)]; rfl
  have eC:stC ⟨[r0,r1,r2,r3,r4,r5,r6,r7,r8,r9,r10],st,pc,a1,t1,c1,f1⟩ a n v=putL c1 (a-2097152).toNat v n.toNat:=if_pos fr
  have eF:stF ⟨[r0,r1,r2,r3,r4,r5,r6,r7,r8,r9,r10],st,pc,a1,t1,c1,f1⟩ a n v=f1:=if_neg (by rw[g2]; decide)
  have eO:stOk ⟨[r0,r1,r2,r3,r4,r5,r6,r7,r8,r9,r10],st,pc,a1,t1,c1,f1⟩ a n=true:=by unfold stOk; rw[show inr 2097152 c1 a n=true from fr]; rfl
  exact RunAt.go hR hp.1.1 hok hf.2 (of_decide_eq_true c6) (hZ hw hk ea en eO) (by rw[sX (m:=⟨[r0,r1,r2,r3,r4,r5,r6,r7,r8,r9,r10],st,pc,a1,t1,c1,f1⟩) hk ea en ev,eC,eF]; rfl) rfl
 ·exact absurd (show _=(64:Int) by(try simp only[au]); omega) (neI c52)
 ·exact absurd (of_decide_eq_false c51) (by(try simp only[au]); omega)
 intro ρ4 ha4 _ hi4
 obtain⟨_,g1⟩:=hi4
 have k4_l1:=kL ha4 k3_l1
 have k4_i7:=kI ha4 k3_i7
 have k4_i8:=kI ha4 k3_i8
 have k4_i9:=kI ha4 k3_i9
 have k4_i10:=kI ha4 k3_i10
 have k4_i11:=kI ha4 k3_i11
 have k4_i12:=kI ha4 k3_i12
 have k4_i13:=kI ha4 k3_i13
 have k4_i14:=kI ha4 k3_i14
 have k4_i15:=kI ha4 k3_i15
 have k4_i16:=kI ha4 k3_i16
 have k4_i17:=kI ha4 k3_i17
 have k4_i18:=kI ha4 k3_i18
 have k4_i19:=kI ha4 k3_i19
 have k4_i84:=kI ha4 k3_i84
 have k4_l86:=kL ha4 k3_l86
 have k4_l87:=kL ha4 k3_l87
 have k4_l88:=kL ha4 k3_l88
 have k4_l89:=kL ha4 k3_l89
 have k4_i91:=kI ha4 k3_i91
 simp only[k4_l1,k4_i7,k4_i8,k4_i9,k4_i10,k4_i11,k4_i12,k4_i13,k4_i14,k4_i15,k4_i16,k4_i17,k4_i18,k4_i19,k4_i84,k4_l86,k4_l87,k4_l88,k4_l89,k4_i91,ea,en,ev,-eq_self]
 refine⟨fun ds=>ds=[]∧inr 3145728 f1 a n=false,?_,?_⟩
 refine⟨fun ds=>ds=[.z (b2i (!inr 3145728 f1 a n))],?_,?_⟩
 refine⟨fun c53=> ?_,fun c53=> ?_⟩
 ·exact congrArg (fun z=>[Dt.z (b2i z)]) (dC c53)
 refine⟨fun c54=> ?_,fun c54=> ?_⟩
 ·exact congrArg (fun z=>[Dt.z (b2i z)]) (cb (l:=f1) ha (by decide) h1 c53 (by rw[q2]; decide) c54)
 ·rw[wrU (a:=n) (by omega) (by omega)]
  exact congrArg (fun z=>[Dt.z (b2i z)]) (bw (l:=f1) ha (by decide) h1 h8 c53 (by rw[q2]; decide) c54)
 intro ρ5 ha5 _ hi5
 simp only[List.cons.injEq,Dt.z.injEq,Dt.l.injEq,b2i_eq_iff,and_true] at hi5
 have k5_b92:=hi5
 have k5_l1:=kL ha5 k4_l1
 have k5_i7:=kI ha5 k4_i7
 have k5_i8:=kI ha5 k4_i8
 have k5_i9:=kI ha5 k4_i9
 have k5_i10:=kI ha5 k4_i10
 have k5_i11:=kI ha5 k4_i11
 have k5_i12:=kI ha5 k4_i12
 have k5_i13:=kI ha5 k4_i13
 have k5_i14:=kI ha5 k4_i14
 have k5_i15:=kI ha5 k4_i15
 have k5_i16:=kI ha5 k4_i16
 have k5_i17:=kI ha5 k4_i17
 have k5_i18:=kI ha5 k4_i18
 have k5_i19:=kI ha5 k4_i19
 have k5_i84:=kI ha5 k4_i84
 have k5_l86:=kL ha5 k4_l86
 have k5_l87:=kL ha5 k4_l87
 have k5_l88:=kL ha5 k4_l88
 have k5_l89:=kL ha5 k4_l89
 have k5_i91:=kI ha5 k4_i91
 simp only[k5_l1,k5_i7,k5_i8,k5_i9,k5_i10,k5_i11,k5_i12,k5_i13,k5_i14,k5_i15,k5_i16,k5_i17,k5_i18,k5_i19,k5_i84,k5_l86,k5_l87,k5_l88,k5_l89,k5_i91,k5_b92,ea,en,ev,-eq_self]
 refine⟨fun c55=> ?_,fun c55=> ?_⟩
 ·exact⟨rfl,by simpa using c55⟩
 refine⟨fun c56=> ?_,fun c56=> ?_⟩
 ·have fr:inr 3145728 f1 a n=true:=by simpa using c55
  have W:=Win.of fr ha (by decide) (by rw[q2]; decide) h1 h8
  have w1:=W.lo; have w2:=W.hi; have w3:=W.len
  simp only[W.sub,W.cv,W.add] at c56
  exact absurd (of_decide_eq_true c56) (by omega)
 refine⟨fun c57=> ?_,fun c57=> ?_⟩
 ·have fr:inr 3145728 f1 a n=true:=by simpa using c55
  have W:=Win.of fr ha (by decide) (by rw[q2]; decide) h1 h8
  have w1:=W.lo; have w2:=W.hi; have w3:=W.len
  simp only[W.sub,W.cv,W.add] at c57
  exact absurd (of_decide_eq_true c57) (by omega)
 refine⟨fun c58=> ?_,fun c58=> ?_⟩
 ·have fr:inr 3145728 f1 a n=true:=by simpa using c55
  have W:=Win.of fr ha (by decide) (by rw[q2]; decide) h1 h8
  have w1:=W.lo; have w2:=W.hi; have w3:=W.len
  simp only[W.sub,W.cv,W.add] at c58
  exact absurd (of_decide_eq_true c58) (by omega)
 have fr:inr 3145728 f1 a n=true:=by simpa using c55
 have W:=Win.of fr ha (by decide) (by rw[q2]; decide) h1 h8
 refine⟨fun ds=>∃k:Nat,ds=[.z (k:Int),.l c1,.l (putL f1 (a-3145728).toNat v k)]∧k≤n.toNat,fun ds=>n.toNat-(dI ds 0).toNat,⟨0,rfl,Nat.zero_le _⟩,?_⟩
 intro ρ6 ha6 _ hi6
 obtain⟨k,hds,hk2⟩:=hi6
 simp only[List.cons.injEq,Dt.z.injEq,Dt.l.injEq,b2i_eq_iff,and_true] at hds
 obtain⟨k6_i93,k6_l94,k6_l95⟩:=hds
 have k6_l1:=kL ha6 k5_l1
 have k6_i7:=kI ha6 k5_i7
 have k6_i8:=kI ha6 k5_i8
 have k6_i9:=kI ha6 k5_i9
 have k6_i10:=kI ha6 k5_i10
 have k6_i11:=kI ha6 k5_i11
 have k6_i12:=kI ha6 k5_i12
 have k6_i13:=kI ha6 k5_i13
 have k6_i14:=kI ha6 k5_i14
 have k6_i15:=kI ha6 k5_i15
 have k6_i16:=kI ha6 k5_i16
 have k6_i17:=kI ha6 k5_i17
 have k6_i18:=kI ha6 k5_i18
 have k6_i19:=kI ha6 k5_i19
 have k6_i84:=kI ha6 k5_i84
 have k6_l86:=kL ha6 k5_l86
 have k6_l87:=kL ha6 k5_l87
 have k6_l88:=kL ha6 k5_l88
 have k6_l89:=kL ha6 k5_l89
 have k6_i91:=kI ha6 k5_i91
 simp only[k6_l1,k6_i7,k6_i8,k6_i9,k6_i10,k6_i11,k6_i12,k6_i13,k6_i14,k6_i15,k6_i16,k6_i17,k6_i18,k6_i19,k6_i84,k6_l86,k6_l87,k6_l88,k6_l89,k6_i91,k6_i93,k6_l94,k6_l95,ea,en,ev,W.sub,W.cv,W.add,W.win,W.len,-eq_self]
 refine⟨fun c59=> ?_,fun c59=> ?_⟩
 refine⟨fun c60=> ?_,fun c60=> ?_⟩
 ·have hk3:k<n.toNat:=Int.ofNat_lt.1 (of_decide_eq_true c59)
  have w1:=W.lo; have w2:=W.hi; have w3:=W.len
  rw[mulE (by omega)] at c60
  exact absurd (of_decide_eq_true c60) (by omega)
 refine⟨fun c61=> ?_,fun c61=> ?_⟩
 ·have hk3:k<n.toNat:=Int.ofNat_lt.1 (of_decide_eq_true c59)
  have w1:=W.lo; have w2:=W.hi; have w3:=W.len
  rw[au] at c61
  exact absurd (of_decide_eq_true c61) (by omega)
 refine⟨fun c62=> ?_,fun c62=> ?_⟩
 ·have hk3:k<n.toNat:=Int.ofNat_lt.1 (of_decide_eq_true c59)
  have w1:=W.lo; have w2:=W.hi; have w3:=W.len
  exact absurd (of_decide_eq_true c62) (by omega)
 refine⟨fun c63=> ?_,fun c63=> ?_⟩
 refine⟨fun c64=> ?_,fun c64=> ?_⟩
 ·have hk3:k<n.toNat:=Int.ofNat_lt.1 (of_decide_eq_true c59)
  have w1:=W.lo; have w2:=W.hi; have w3:=W.len
  rw[(W.byte (by rw[q2]; decide) hk3).1] at c64
  exact absurd (of_decide_eq_true c64) (by omega)
 refine⟨fun c65=> ?_,fun c65=> ?_⟩
 ·have hk3:k<n.toNat:=Int.ofNat_lt.1 (of_decide_eq_true c59)
  rw[putS W (by rw[q2]; decide) v hk3,addO hk3 (Nat.le_trans (by omega:n.toNat≤8) (by decide))]
  exact⟨⟨k+1,rfl,hk3⟩,by show n.toNat-(((k+1:Nat):Int)).toNat<n.toNat-((k:Int)).toNat; omega⟩
 ·have hk3:k<n.toNat:=Int.ofNat_lt.1 (of_decide_eq_true c59)
  have w1:=W.lo; have w2:=W.hi; have w3:=W.len
  rw[(W.byte (by rw[q2]; decide) hk3).1,au] at c65
  exact absurd (of_decide_eq_false c65) (by omega)
 ·have hk3:k<n.toNat:=Int.ofNat_lt.1 (of_decide_eq_true c59)
  have w1:=W.lo; have w2:=W.hi; have w3:=W.len
  simp only[List.length_drop,List.length_take,au] at c63
  exact absurd (of_decide_eq_false c63) (by omega)
 refine⟨fun c66=> ?_,fun c66=> ?_⟩
 refine⟨fun c67=> ?_,fun c67=> ?_⟩
 ·have hk:(ae p.l pc).k=2:=eqI c19
  have hw:opI .andNot .i64 (ai (ae p.l pc)) st=0:=eqI c9
  obtain rfl:k=n.toNat:=by have:=of_decide_eq_false c59; omega
  have eC:stC ⟨[r0,r1,r2,r3,r4,r5,r6,r7,r8,r9,r10],st,pc,a1,t1,c1,f1⟩ a n v=c1:=if_neg (by rw[g1]; decide)
  have eF:stF ⟨[r0,r1,r2,r3,r4,r5,r6,r7,r8,r9,r10],st,pc,a1,t1,c1,f1⟩ a n v=putL f1 (a-3145728).toNat v n.toNat:=if_pos fr
  have eO:stOk ⟨[r0,r1,r2,r3,r4,r5,r6,r7,r8,r9,r10],st,pc,a1,t1,c1,f1⟩ a n=true:=by unfold stOk; rw[show inr 3145728 f1 a n=true from fr,Bool.or_true]
  exact RunAt.go hR hp.1.1 hok hf.2 (of_decide_eq_true c6) (hZ hw hk ea en eO) (by rw[sX (m:=⟨[r0,r1,r2,r3,r4,r5,r6,r7,r8,r9,r10],st,pc,a1,t1,c1,f1⟩) hk ea en ev,eC,eF]; rfl) rfl
 ·exact absurd (show _=(64:Int) by(try simp only[au]); omega) (neI c67)
 ·exact absurd (of_decide_eq_false c66) (by(try simp only[au]); omega)
 intro ρ5 ha5 _ hi5
 obtain⟨_,g2⟩:=hi5
 have k5_l1:=kL ha5 k4_l1
 have k5_i7:=kI ha5 k4_i7
 have k5_i8:=kI ha5 k4_i8
 have k5_i9:=kI ha5 k4_i9
 have k5_i10:=kI ha5 k4_i10
 have k5_i11:=kI ha5 k4_i11
 have k5_i12:=kI ha5 k4_i12
 have k5_i13:=kI ha5 k4_i13
 have k5_i14:=kI ha5 k4_i14
 have k5_i15:=kI ha5 k4_i15
 have k5_i16:=kI ha5 k4_i16
 have k5_i17:=kI ha5 k4_i17
 have k5_i18:=kI ha5 k4_i18
 have k5_i19:=kI ha5 k4_i19
 have k5_i84:=kI ha5 k4_i84
 have k5_l86:=kL ha5 k4_l86
 have k5_l87:=kL ha5 k4_l87
 have k5_l88:=kL ha5 k4_l88
 have k5_l89:=kL ha5 k4_l89
 have k5_i91:=kI ha5 k4_i91
 simp only[k5_l1,k5_i7,k5_i8,k5_i9,k5_i10,k5_i11,k5_i12,k5_i13,k5_i14,k5_i15,k5_i16,k5_i17,k5_i18,k5_i19,k5_i84,k5_l86,k5_l87,k5_l88,k5_l89,k5_i91,ea,en,ev,-eq_self]
 refine⟨fun ds=>ds=[]∧inr 4194304 [] a n=false,?_,?_⟩
 refine⟨fun ds=>ds=[.z (b2i (!inr 4194304 [] a n))],?_,?_⟩
 refine⟨fun c68=> ?_,fun c68=> ?_⟩
 ·exact congrArg (fun z=>[Dt.z (b2i z)]) (dC c68)
 refine⟨fun c69=> ?_,fun c69=> ?_⟩
 ·exact congrArg (fun z=>[Dt.z (b2i z)]) (cb (l:=[]) ha (by decide) h1 c68 (by decide) c69)
 ·rw[wrU (a:=n) (by omega) (by omega)]
  exact congrArg (fun z=>[Dt.z (b2i z)]) (bw (l:=[]) ha (by decide) h1 h8 c68 (by decide) c69)
 intro ρ6 ha6 _ hi6
 simp only[List.cons.injEq,Dt.z.injEq,Dt.l.injEq,b2i_eq_iff,and_true] at hi6
 have k6_b92:=hi6
 have k6_l1:=kL ha6 k5_l1
 have k6_i7:=kI ha6 k5_i7
 have k6_i8:=kI ha6 k5_i8
 have k6_i9:=kI ha6 k5_i9
 have k6_i10:=kI ha6 k5_i10
 have k6_i11:=kI ha6 k5_i11
 have k6_i12:=kI ha6 k5_i12
 have k6_i13:=kI ha6 k5_i13
 have k6_i14:=kI ha6 k5_i14
 have k6_i15:=kI ha6 k5_i15
 have k6_i16:=kI ha6 k5_i16
 have k6_i17:=kI ha6 k5_i17
 have k6_i18:=kI ha6 k5_i18
 have k6_i19:=kI ha6 k5_i19
 have k6_i84:=kI ha6 k5_i84
 have k6_l86:=kL ha6 k5_l86
 have k6_l87:=kL ha6 k5_l87
 have k6_l88:=kL ha6 k5_l88
 have k6_l89:=kL ha6 k5_l89
 have k6_i91:=kI ha6 k5_i91
 simp only[k6_l1,k6_i7,k6_i8,k6_i9,k6_i10,k6_i11,k6_i12,k6_i13,k6_i14,k6_i15,k6_i16,k6_i17,k6_i18,k6_i19,k6_i84,k6_l86,k6_l87,k6_l88,k6_l89,k6_i91,k6_b92,ea,en,ev,-eq_self]
 refine⟨fun c70=> ?_,fun c70=> ?_⟩
 ·exact⟨rfl,by simpa using c70⟩
 ·exact absurd c70 (by simp[ca h1])
 intro ρ6 ha6 _ hi6
 obtain⟨_,g3⟩:=hi6
 have k6_l1:=kL ha6 k5_l1
 have k6_i7:=kI ha6 k5_i7
 have k6_i8:=kI ha6 k5_i8
 have k6_i9:=kI ha6 k5_i9
 have k6_i10:=kI ha6 k5_i10
 have k6_i11:=kI ha6 k5_i11
 have k6_i12:=kI ha6 k5_i12
 have k6_i13:=kI ha6 k5_i13
 have k6_i14:=kI ha6 k5_i14
 have k6_i15:=kI ha6 k5_i15
 have k6_i16:=kI ha6 k5_i16
 have k6_i17:=kI ha6 k5_i17
 have k6_i18:=kI ha6 k5_i18
 have k6_i19:=kI ha6 k5_i19
 have k6_i84:=kI ha6 k5_i84
 have k6_l86:=kL ha6 k5_l86
 have k6_l87:=kL ha6 k5_l87
 have k6_l88:=kL ha6 k5_l88
 have k6_l89:=kL ha6 k5_l89
 have k6_i91:=kI ha6 k5_i91
 simp only[k6_l1,k6_i7,k6_i8,k6_i9,k6_i10,k6_i11,k6_i12,k6_i13,k6_i14,k6_i15,k6_i16,k6_i17,k6_i18,k6_i19,k6_i84,k6_l86,k6_l87,k6_l88,k6_l89,k6_i91,ea,en,ev,-eq_self]
 refine⟨fun ds=>ds=[.z 0,.l c1,.l f1],fun _=>0,rfl,?_⟩
 intro ρ7 ha7 _ hi7
 simp only[List.cons.injEq,Dt.z.injEq,Dt.l.injEq,b2i_eq_iff,and_true] at hi7
 obtain⟨k7_i92,k7_l93,k7_l94⟩:=hi7
 have k7_l1:=kL ha7 k6_l1
 have k7_i7:=kI ha7 k6_i7
 have k7_i8:=kI ha7 k6_i8
 have k7_i9:=kI ha7 k6_i9
 have k7_i10:=kI ha7 k6_i10
 have k7_i11:=kI ha7 k6_i11
 have k7_i12:=kI ha7 k6_i12
 have k7_i13:=kI ha7 k6_i13
 have k7_i14:=kI ha7 k6_i14
 have k7_i15:=kI ha7 k6_i15
 have k7_i16:=kI ha7 k6_i16
 have k7_i17:=kI ha7 k6_i17
 have k7_i18:=kI ha7 k6_i18
 have k7_i19:=kI ha7 k6_i19
 have k7_i84:=kI ha7 k6_i84
 have k7_l86:=kL ha7 k6_l86
 have k7_l87:=kL ha7 k6_l87
 have k7_l88:=kL ha7 k6_l88
 have k7_l89:=kL ha7 k6_l89
 have k7_i91:=kI ha7 k6_i91
 simp only[k7_l1,k7_i7,k7_i8,k7_i9,k7_i10,k7_i11,k7_i12,k7_i13,k7_i14,k7_i15,k7_i16,k7_i17,k7_i18,k7_i19,k7_i84,k7_l86,k7_l87,k7_l88,k7_l89,k7_i91,k7_i92,k7_l93,k7_l94,ea,en,ev,-eq_self]
 refine⟨fun c71=> ?_,fun c71=> ?_⟩
 refine⟨fun c72=> ?_,fun c72=> ?_⟩
 ·exact absurd (of_decide_eq_true c71) (by decide)
 ·exact absurd (of_decide_eq_true c71) (by decide)
 refine⟨fun c73=> ?_,fun c73=> ?_⟩
 refine⟨fun c74=> ?_,fun c74=> ?_⟩
 refine⟨?_,?_⟩
 ·exact hfit
 intro e; (try simp only[e,Ins.eta,Prog.eta,aa,Mem.eta,Mach.eta,-eq_self]); clear e
 ·have hk:(ae p.l pc).k=2:=eqI c19
  have hw:opI .andNot .i64 (ai (ae p.l pc)) st=0:=eqI c9
  have eO:stOk ⟨[r0,r1,r2,r3,r4,r5,r6,r7,r8,r9,r10],st,pc,a1,t1,c1,f1⟩ a n=false:=by unfold stOk; rw[show inr 2097152 c1 a n=false from g1,show inr 3145728 f1 a n=false from g2]; rfl
  have e:mrun p cx an fu=_:=bQ hop hR hf.2 (of_decide_eq_true c6) (pM hw hk ea en eO) (by decide)
  rw[e]
  rfl
 ·exact absurd (show _=(64:Int) by omega) (neI c74)
 ·exact absurd (of_decide_eq_false c73) (by omega)
 ·have hmay:=aj hp.1.1 hok q0 q1
  have hd:=aK hmay
  exact absurd (of_decide_eq_false c23) (by omega)
 ·have hmay:=aj hp.1.1 hok q0 q1
  have hd:=aK hmay
  exact absurd (of_decide_eq_false c21) (by omega)
 refine⟨fun c75=> ?_,fun c75=> ?_⟩
 refine⟨fun c76=> ?_,fun c76=> ?_⟩
 ·have hmay:=aj hp.1.1 hok q0 q1
  have hd:=aK hmay
  exact absurd (of_decide_eq_true c76) (by omega)
 refine⟨fun c77=> ?_,fun c77=> ?_⟩
 refine⟨?_,?_⟩
 ·exact fun _=>(by have hd:=aZ (aj hp.1.1 hok hR.pc0 hR.pc1); exact⟨hd.2.2.1,hd.2.2.2.1⟩)
 intro e; (try simp only[e,Ins.eta,Prog.eta,aa,Mem.eta,Mach.eta,-eq_self]); clear e
 intro e; (try simp only[e,Ins.eta,Prog.eta,aa,Mem.eta,Mach.eta,-eq_self]); clear e
 refine⟨fun c78=> ?_,fun c78=> ?_⟩
 intro e; (try simp only[e,Ins.eta,Prog.eta,aa,Mem.eta,Mach.eta,-eq_self]); clear e
 ·have hk:(ae p.l pc).k=3:=eqI c75
  have hw:opI .andNot .i64 (ai (ae p.l pc)) st=0:=eqI c9
  exact RunAt.go hR hp.1.1 hok hf.2 (of_decide_eq_true c6) (dD hw (.inr (.inl hk))) ((wv (m:=⟨[r0,r1,r2,r3,r4,r5,r6,r7,r8,r9,r10],st,pc,a1,t1,c1,f1⟩) hk c78).symm) rfl
 ·have hk:(ae p.l pc).k=3:=eqI c75
  have hw:opI .andNot .i64 (ai (ae p.l pc)) st=0:=eqI c9
  exact RunAt.go hR hp.1.1 hok hf.2 (of_decide_eq_true c6) (dD hw (.inr (.inl hk))) ((ww (m:=⟨[r0,r1,r2,r3,r4,r5,r6,r7,r8,r9,r10],st,pc,a1,t1,c1,f1⟩) hk c78).symm) rfl
 ·have hmay:=aj hp.1.1 hok q0 q1
  have hd:=aK hmay
  exact absurd (of_decide_eq_false c77) (by omega)
 refine⟨fun c79=> ?_,fun c79=> ?_⟩
 intro e; (try simp only[e,Ins.eta,Prog.eta,aa,Mem.eta,Mach.eta,-eq_self]); clear e
 ·have hk:(ae p.l pc).k=4:=eqI c79
  have hw:opI .andNot .i64 (ai (ae p.l pc)) st=0:=eqI c9
  exact RunAt.go hR hp.1.1 hok hf.2 (of_decide_eq_true c6) (dD hw (.inr (.inr hk))) (by rw[abi hk]; rfl) rfl
 refine⟨fun c80=> ?_,fun c80=> ?_⟩
 refine⟨fun c81=> ?_,fun c81=> ?_⟩
 refine⟨?_,?_⟩
 ·exact hfit
 intro e; (try simp only[e,Ins.eta,Prog.eta,aa,Mem.eta,Mach.eta,-eq_self]); clear e
 ·have hk:(ae p.l pc).k=5:=eqI c80
  have hw:opI .andNot .i64 (ai (ae p.l pc)) st=0:=eqI c9
  have e:mrun p cx an fu=_:=bQ hop hR hf.2 (of_decide_eq_true c6) (pP hw hk (show a1.length=0 by have:=eqI c81; omega)) (by decide)
  rw[e]
  rfl
 intro e; (try simp only[e,Ins.eta,Prog.eta,aa,Mem.eta,Mach.eta,-eq_self]); clear e
 refine⟨fun c82=> ?_,fun c82=> ?_⟩
 ·have z:=aE (gt p.l pc 8)
  rw[show opI .add .i64 1 (bo (gt p.l pc 8))=1+bo (gt p.l pc 8) from wrI (by omega) (by omega)] at c82
  exact absurd (of_decide_eq_true c82) (by omega)
 refine⟨fun c83=> ?_,fun c83=> ?_⟩
 ·have z:=aE (gt p.l pc 8)
  rw[show opI .add .i64 1 (bo (gt p.l pc 8))=1+bo (gt p.l pc 8) from wrI (by omega) (by omega)] at c83
  exact absurd (of_decide_eq_true c83) (by omega)
 refine⟨fun c84=> ?_,fun c84=> ?_⟩
 refine⟨fun c85=> ?_,fun c85=> ?_⟩
 ·have z:=aE (gt p.l pc 8)
  rw[show opI .add .i64 1 (bo (gt p.l pc 8))=1+bo (gt p.l pc 8) from wrI (by omega) (by omega),List.length_drop,List.length_take] at c85
  exact absurd (of_decide_eq_true c85) (by simp only[Int.toNat_one]; omega)
 refine⟨fun c86=> ?_,fun c86=> ?_⟩
 refine⟨fun c87=> ?_,fun c87=> ?_⟩
 ·exact absurd (of_decide_eq_true c87) (by have:=of_decide_eq_true c84; omega)
 ·have hk:(ae p.l pc).k=5:=eqI c80
  have hw:opI .andNot .i64 (ai (ae p.l pc)) st=0:=eqI c9
  exact RunAt.go hR hp.1.1 hok hf.2 (of_decide_eq_true c6) (pQ hw hk (show a1.length≠0 by have:=neI c81; omega)) (by rw[abh hk]; rfl) rfl
 ·exact absurd (of_decide_eq_false c86) (by omega)
 ·exact absurd (of_decide_eq_false c84) (by have:=neI c81; omega)
 refine⟨fun c88=> ?_,fun c88=> ?_⟩
 refine⟨?_,?_⟩
 ·exact hfit
 intro e; (try simp only[e,Ins.eta,Prog.eta,aa,Mem.eta,Mach.eta,-eq_self]); clear e
 ·have hk:(ae p.l pc).k=6:=eqI c88
  have hw:opI .andNot .i64 (ai (ae p.l pc)) st=0:=eqI c9
  have e:mrun p cx an fu=_:=bQ hop hR hf.2 (of_decide_eq_true c6) (wS hw hk) (by decide)
  rw[e]
  rfl
 ·have hmay:=aj hp.1.1 hok q0 q1
  have hd:=aK hmay
  have n0:=neI c10; have n1:=neI c13; have n2:=neI c19; have n3:=neI c75; have n4:=neI c79; have n5:=neI c80; have n6:=neI c88; omega
 refine⟨?_,?_⟩
 ·exact hfit
 intro e; (try simp only[e,Ins.eta,Prog.eta,aa,Mem.eta,Mach.eta,-eq_self]); clear e
 ·have e:mrun p cx an fu=_:=bQ hop hR hf.2 (of_decide_eq_true c6) (wT (neI c9)) (by decide)
  rw[e]
  rfl
 ·exact absurd q1 (of_decide_eq_false c8)
 refine⟨?_,?_⟩
 ·exact hfit
 intro e; (try simp only[e,Ins.eta,Prog.eta,aa,Mem.eta,Mach.eta,-eq_self]); clear e
 ·have e:mrun p cx an fu=_:=rC hop hR (of_decide_eq_false c6)
  rw[e]
 ·exact absurd (of_decide_eq_false c5) (by have:=of_decide_eq_false c4; omega)
 ·have e:mrun p cx an fu=_:=ef (dr (eqI c0) (.inl (neI c1))) (by decide)
  rw[e]
 ·have e:mrun p cx an fu=_:=ef (mo (neI c0)) (neI c0)
  rw[e]
theorem aaO {sp:Spec} {key:Nat} (hF:sp.F key=jF) (hP:sp.pre key=gJ):SmOk Try.prog sp (pk key):=
 aS (s:=pk key) hF hP (by kernel_rfl) tU (smc (pt rfl) (smc (vG rfl rfl) (smc (vH rfl rfl) (smc (nR rfl rfl) (smc (pu rfl) (smc (lY rfl) (smc (vP rfl) (smc (sK_holds rfl) (smc (qM rfl rfl) (smc (nP rfl rfl) sm0)))))))))) Try.func11 (fnc Try.func38 (fnc Try.func58 (fnc Try.func59 (fnc Try.func60 (fnc Try.func61 (fnc Try.func62 (fnc Try.func63 (fnc Try.func64 (fnc Try.func36 (fnc Try.func77 (fnc Try.func88 (fnc Try.func105 (fnc Try.func78 (fnc Try.func39 (fnc Try.func57 (fnc Try.func23 (fnc Try.func35 (fnc Try.func24 (fnc Try.func37 fn0))))))))))))))))))) aaE (.inr (.inl ⟨(fun xs h L hL=>by unfold gJ at h; split at h<;>first | exact h.elim | (simp at hL; rcases hL with rfl | rfl | rfl; exact h.1.1; exact h.1.2; exact h.2)),rfl⟩)) (fun x0 gx0 x1 gx1 x2 gx2 x3 gx3 x4 gx4 hp ρ g=>aat ⟨x0,x1⟩ ⟨gx0,gx1⟩ x2 gx2 x3 gx3 x4 gx4 hp ρ g)
end Go.Proofs.Ytghiofgomcihcaa
