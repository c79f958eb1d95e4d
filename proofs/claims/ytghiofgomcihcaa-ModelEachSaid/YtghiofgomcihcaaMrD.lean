import Derived.Test.YtghiofgomcihcaaMrB
import Derived.Test.YtghiofgomcihcaaMrZ
import Derived.Test.YtghiofgomcihcaaProg
import Derived.Laws.Externs
set_option linter.unusedVariables false
set_option linter.unusedSimpArgs false
namespace Go.Proofs.Ytghiofgomcihcaa
open Go.RowKit Go.ChangeShapes Go.WideShapes
def tys_MrD:List (Nat×TI):=[(2,⟨false,1,[.int .i64 (.lit 0)],[],none,some .i64,false,false,none,8,false,none,false,0⟩),
 (3,⟨false,1,[.int .i64 (.lit 0)],[],none,some .i64,false,false,none,8,false,none,false,0⟩),
 (4,⟨false,1,[.bool (.tt false)],[],none,none,false,true,none,1,false,none,false,0⟩),
 (5,⟨false,1,[.int .u8 (.lit 0)],[],none,some .u8,false,false,none,1,false,none,false,0⟩),
 (22,⟨false,1,[.nsl],[],none,none,false,false,some 44,24,false,none,false,0⟩),
 (24,⟨true,2,[.int .i64 (.lit 0),.nsl],[(0,3),(1,22)],none,none,false,false,none,32,false,none,false,0⟩),
 (25,⟨false,1,[.nsl],[],none,none,false,false,some 5,24,false,none,false,0⟩),
 (26,⟨false,1,[.nsl],[],none,none,false,false,some 30,24,false,none,false,0⟩),
 (29,⟨false,1,[.int .i8 (.lit 0)],[],none,some .i8,false,false,none,1,false,none,false,0⟩),
 (30,⟨false,1,[.int .u64 (.lit 0)],[],none,some .u64,false,false,none,8,false,none,false,0⟩),
 (31,⟨false,1,[.nsl],[],none,none,false,false,some 39,24,false,none,false,0⟩),
 (33,⟨true,5,[.int .i8 (.lit 0),.int .u64 (.lit 0),.nsl,.nsl,.int .i64 (.lit 0)],[(0,29),(1,30),(2,25),(3,31),(4,3)],none,none,false,false,none,72,false,none,false,0⟩),
 (34,⟨false,1,[.int .i64 (.lit 0)],[],none,some .i64,false,false,none,8,false,none,false,0⟩),
 (39,⟨true,3,[.int .i64 (.lit 0),.nsl,.int .u64 (.lit 0)],[(0,3),(1,26),(2,30)],none,none,false,false,none,40,false,none,false,0⟩),
 (44,⟨true,9,[.int .i8 (.lit 0),.int .i8 (.lit 0),.int .i8 (.lit 0),.int .i8 (.lit 0),.bool (.tt false),.int .i8 (.lit 0),.int .i8 (.lit 0),.int .i64 (.lit 0),.int .i64 (.lit 0)],[(0,29),(1,29),(2,29),(3,29),(4,4),(5,29),(6,29),(7,3),(8,3)],none,none,true,false,none,24,false,none,false,0⟩),
 (46,⟨false,1,[.nsl],[],none,none,false,false,some 3,24,false,none,false,0⟩),
 (47,⟨false,1,[.nsl],[],none,none,false,false,some 56,24,false,none,false,0⟩),
 (53,⟨true,11,[.int .u64 (.lit 0),.int .u64 (.lit 0),.int .u64 (.lit 0),.int .u64 (.lit 0),.int .u64 (.lit 0),.int .u64 (.lit 0),.int .u64 (.lit 0),.int .u64 (.lit 0),.int .u64 (.lit 0),.int .u64 (.lit 0),.int .u64 (.lit 0)],[],some (11,30),none,false,false,none,88,false,none,false,0⟩),
 (54,⟨true,64,[.int .u8 (.lit 0),.int .u8 (.lit 0),.int .u8 (.lit 0),.int .u8 (.lit 0),.int .u8 (.lit 0),.int .u8 (.lit 0),.int .u8 (.lit 0),.int .u8 (.lit 0),.int .u8 (.lit 0),.int .u8 (.lit 0),.int .u8 (.lit 0),.int .u8 (.lit 0),.int .u8 (.lit 0),.int .u8 (.lit 0),.int .u8 (.lit 0),.int .u8 (.lit 0),.int .u8 (.lit 0),.int .u8 (.lit 0),.int .u8 (.lit 0),.int .u8 (.lit 0),.int .u8 (.lit 0),.int .u8 (.lit 0),.int .u8 (.lit 0),.int .u8 (.lit 0),.int .u8 (.lit 0),.int .u8 (.lit 0),.int .u8 (.lit 0),.int .u8 (.lit 0),.int .u8 (.lit 0),.int .u8 (.lit 0),.int .u8 (.lit 0),.int .u8 (.lit 0),.int .u8 (.lit 0),.int .u8 (.lit 0),.int .u8 (.lit 0),.int .u8 (.lit 0),.int .u8 (.lit 0),.int .u8 (.lit 0),.int .u8 (.lit 0),.int .u8 (.lit 0),.int .u8 (.lit 0),.int .u8 (.lit 0),.int .u8 (.lit 0),.int .u8 (.lit 0),.int .u8 (.lit 0),.int .u8 (.lit 0),.int .u8 (.lit 0),.int .u8 (.lit 0),.int .u8 (.lit 0),.int .u8 (.lit 0),.int .u8 (.lit 0),.int .u8 (.lit 0),.int .u8 (.lit 0),.int .u8 (.lit 0),.int .u8 (.lit 0),.int .u8 (.lit 0),.int .u8 (.lit 0),.int .u8 (.lit 0),.int .u8 (.lit 0),.int .u8 (.lit 0),.int .u8 (.lit 0),.int .u8 (.lit 0),.int .u8 (.lit 0),.int .u8 (.lit 0)],[],some (64,5),none,false,false,none,64,false,none,false,0⟩),
 (56,⟨true,76,[.int .u64 (.lit 0),.int .u64 (.lit 0),.int .u64 (.lit 0),.int .u64 (.lit 0),.int .u64 (.lit 0),.int .u64 (.lit 0),.int .u64 (.lit 0),.int .u64 (.lit 0),.int .u64 (.lit 0),.int .u64 (.lit 0),.int .u64 (.lit 0),.int .i64 (.lit 0),.int .u8 (.lit 0),.int .u8 (.lit 0),.int .u8 (.lit 0),.int .u8 (.lit 0),.int .u8 (.lit 0),.int .u8 (.lit 0),.int .u8 (.lit 0),.int .u8 (.lit 0),.int .u8 (.lit 0),.int .u8 (.lit 0),.int .u8 (.lit 0),.int .u8 (.lit 0),.int .u8 (.lit 0),.int .u8 (.lit 0),.int .u8 (.lit 0),.int .u8 (.lit 0),.int .u8 (.lit 0),.int .u8 (.lit 0),.int .u8 (.lit 0),.int .u8 (.lit 0),.int .u8 (.lit 0),.int .u8 (.lit 0),.int .u8 (.lit 0),.int .u8 (.lit 0),.int .u8 (.lit 0),.int .u8 (.lit 0),.int .u8 (.lit 0),.int .u8 (.lit 0),.int .u8 (.lit 0),.int .u8 (.lit 0),.int .u8 (.lit 0),.int .u8 (.lit 0),.int .u8 (.lit 0),.int .u8 (.lit 0),.int .u8 (.lit 0),.int .u8 (.lit 0),.int .u8 (.lit 0),.int .u8 (.lit 0),.int .u8 (.lit 0),.int .u8 (.lit 0),.int .u8 (.lit 0),.int .u8 (.lit 0),.int .u8 (.lit 0),.int .u8 (.lit 0),.int .u8 (.lit 0),.int .u8 (.lit 0),.int .u8 (.lit 0),.int .u8 (.lit 0),.int .u8 (.lit 0),.int .u8 (.lit 0),.int .u8 (.lit 0),.int .u8 (.lit 0),.int .u8 (.lit 0),.int .u8 (.lit 0),.int .u8 (.lit 0),.int .u8 (.lit 0),.int .u8 (.lit 0),.int .u8 (.lit 0),.int .u8 (.lit 0),.int .u8 (.lit 0),.int .u8 (.lit 0),.int .u8 (.lit 0),.int .u8 (.lit 0),.int .u8 (.lit 0)],[(0,53),(11,3),(12,54)],none,none,false,false,none,160,false,none,false,0⟩),
 (75,⟨false,1,[.nilp],[],none,none,false,false,none,8,false,none,false,1⟩),
 (77,⟨true,82,[.int .i64 (.lit 0),.nsl,.nilp,.int .u64 (.lit 0),.int .u64 (.lit 0),.int .u64 (.lit 0),.int .u64 (.lit 0),.int .u64 (.lit 0),.int .u64 (.lit 0),.int .u64 (.lit 0),.int .u64 (.lit 0),.int .u64 (.lit 0),.int .u64 (.lit 0),.int .u64 (.lit 0),.int .i64 (.lit 0),.int .u8 (.lit 0),.int .u8 (.lit 0),.int .u8 (.lit 0),.int .u8 (.lit 0),.int .u8 (.lit 0),.int .u8 (.lit 0),.int .u8 (.lit 0),.int .u8 (.lit 0),.int .u8 (.lit 0),.int .u8 (.lit 0),.int .u8 (.lit 0),.int .u8 (.lit 0),.int .u8 (.lit 0),.int .u8 (.lit 0),.int .u8 (.lit 0),.int .u8 (.lit 0),.int .u8 (.lit 0),.int .u8 (.lit 0),.int .u8 (.lit 0),.int .u8 (.lit 0),.int .u8 (.lit 0),.int .u8 (.lit 0),.int .u8 (.lit 0),.int .u8 (.lit 0),.int .u8 (.lit 0),.int .u8 (.lit 0),.int .u8 (.lit 0),.int .u8 (.lit 0),.int .u8 (.lit 0),.int .u8 (.lit 0),.int .u8 (.lit 0),.int .u8 (.lit 0),.int .u8 (.lit 0),.int .u8 (.lit 0),.int .u8 (.lit 0),.int .u8 (.lit 0),.int .u8 (.lit 0),.int .u8 (.lit 0),.int .u8 (.lit 0),.int .u8 (.lit 0),.int .u8 (.lit 0),.int .u8 (.lit 0),.int .u8 (.lit 0),.int .u8 (.lit 0),.int .u8 (.lit 0),.int .u8 (.lit 0),.int .u8 (.lit 0),.int .u8 (.lit 0),.int .u8 (.lit 0),.int .u8 (.lit 0),.int .u8 (.lit 0),.int .u8 (.lit 0),.int .u8 (.lit 0),.int .u8 (.lit 0),.int .u8 (.lit 0),.int .u8 (.lit 0),.int .u8 (.lit 0),.int .u8 (.lit 0),.int .u8 (.lit 0),.int .u8 (.lit 0),.int .u8 (.lit 0),.int .u8 (.lit 0),.int .u8 (.lit 0),.int .u8 (.lit 0),.int .i64 (.lit 0),.nsl,.nsl],[(0,24),(2,75),(3,56),(79,3),(80,26),(81,31)],none,none,false,false,none,256,false,none,false,0⟩),
 (101,⟨true,4,[.nsl,.nsl,.nsl,.nsl],[(0,25),(1,25),(2,25),(3,25)],none,none,false,false,none,96,false,none,false,0⟩)]
set_option maxRecDepth 100000 in
theorem ui:(tys_MrD.all fun p=>ckTI Try.prog p.1 p.2)=true:=by kernel_rfl
theorem mY:(tys_MrD.all fun p=>!p.2.eqok||((Nat.beq p.1 44&&bv p.2.zero iF)))=true:=by kernel_rfl
theorem tY:(tys_MrD.all fun p=>!p.2.keyok)=true:=by kernel_rfl
theorem tT:∀t i,(t,i)∈tys_MrD→TIok Try.prog t i:=by
 intro t i h
 refine cQ (eY (f:=ckTI Try.prog) ui h) (fun he=> ?_) (fun he=> ?_) (fun he=> ?_)
 ·have h1:=List.all_eq_true.1 mY (t,i) h
  simp only[he,Bool.not_true,Bool.false_or,Bool.or_eq_true,Bool.and_eq_true] at h1
  have hs:=h1.2
  obtain rfl:=Nat.eq_of_beq_eq_true h1.1
  exact fun vs us hv hu=>iA vs us (aB hs hv) (aB hs hu)
 ·have h1:=List.all_eq_true.1 mY (t,i) h
  simp only[he,Bool.not_true,Bool.false_or,Bool.or_eq_true,Bool.and_eq_true] at h1
  have hs:=h1.2
  obtain rfl:=Nat.eq_of_beq_eq_true h1.1
  exact ek
 ·have h1:=List.all_eq_true.1 tY (t,i) h
  simp[he] at h1
def jy (key:Nat):Sm:=⟨16,key,[.agg kD,.one (.sl [some .u8] 5),.one (.sl [some .u64] 30),.one (.int .i64)],[.one (.sl [some .i64] 3),.one (.sl [some .u64,some .u64,some .u64,some .u64,some .u64,some .u64,some .u64,some .u64,some .u64,some .u64,some .u64,some .i64,some .u8,some .u8,some .u8,some .u8,some .u8,some .u8,some .u8,some .u8,some .u8,some .u8,some .u8,some .u8,some .u8,some .u8,some .u8,some .u8,some .u8,some .u8,some .u8,some .u8,some .u8,some .u8,some .u8,some .u8,some .u8,some .u8,some .u8,some .u8,some .u8,some .u8,some .u8,some .u8,some .u8,some .u8,some .u8,some .u8,some .u8,some .u8,some .u8,some .u8,some .u8,some .u8,some .u8,some .u8,some .u8,some .u8,some .u8,some .u8,some .u8,some .u8,some .u8,some .u8,some .u8,some .u8,some .u8,some .u8,some .u8,some .u8,some .u8,some .u8,some .u8,some .u8,some .u8,some .u8] 56),.agg kOut,.one (.int .i64)],true⟩
def jn (p:Prog) (cx:List (List Int)) (an:List (List Int)) (fu:Int):List Dt:=[.l ((bJ p cx an fu).1),.l ((bJ p cx an fu).2),.z (((mrun p cx an fu).1).kind),.z (((mrun p cx an fu).1).r0),.l (((mrun p cx an fu).1).ctx),.l (((mrun p cx an fu).1).tr),.z (((mrun p cx an fu).1).left),.z ((mrun p cx an fu).2)]
def dP:List Dt→List Dt
 | [.z x0,.l x1,.l x2,.l x3,.z x4]=>jn ⟨x0,x1⟩ x2 x3 x4
 | _=>[]
set_option maxRecDepth 100000 in
def sT_jsnaps:Tr:=
(.call 0 [.int .i64,.int .i64] (.cons (.var 0) (.consl (.lvar 1) .nil)) 5
(.br (.eq (.var 6) (.lit 0))
(.br (.eq (.len (.lvar 2)) (.var 0))
(.br (.lt (.var 4) (.lit 0))
(.leaf (.consl .lnil (.consl .lnil (.cons (.lit 0) (.cons (.lit 0) (.consl .lnil (.consl .lnil (.cons (.lit 0) (.cons (.lit 2) .nil)))))))))
(.br (.lt (.lit 10000) (.var 4))
(.leaf (.consl .lnil (.consl .lnil (.cons (.lit 0) (.cons (.lit 0) (.consl .lnil (.consl .lnil (.cons (.lit 0) (.cons (.lit 2) .nil)))))))))
(.br (.lt (.lit 256) (.len (.lvar 2)))
(.stuck 113)
(.call 10 [.sl [some .u8] 5] (.consl .lnil .nil) 7
(.call 10 [.sl [some .u8] 5] (.consl (.lvar 2) .nil) 8
(.loop 0 9 [.int .i64,.int .u64,.int .u64,.int .u64,.int .u64,.int .u64,.int .u64,.int .u64,.int .u64,.int .u64,.int .u64,.int .u64,.int .i64,.int .u8,.int .u8,.int .u8,.int .u8,.int .u8,.int .u8,.int .u8,.int .u8,.int .u8,.int .u8,.int .u8,.int .u8,.int .u8,.int .u8,.int .u8,.int .u8,.int .u8,.int .u8,.int .u8,.int .u8,.int .u8,.int .u8,.int .u8,.int .u8,.int .u8,.int .u8,.int .u8,.int .u8,.int .u8,.int .u8,.int .u8,.int .u8,.int .u8,.int .u8,.int .u8,.int .u8,.int .u8,.int .u8,.int .u8,.int .u8,.int .u8,.int .u8,.int .u8,.int .u8,.int .u8,.int .u8,.int .u8,.int .u8,.int .u8,.int .u8,.int .u8,.int .u8,.int .u8,.int .u8,.int .u8,.int .u8,.int .u8,.int .u8,.int .u8,.int .u8,.int .u8,.int .u8,.int .u8,.int .u8,.int .i64,.list [some .u64],.list [some .i64,some .u64,some .i64,some .u64,some .u64,some .u64,some .u64,some .u64],.list [some .u8],.list [some .u8],.list [some .i64],.list [some .u64,some .u64,some .u64,some .u64,some .u64,some .u64,some .u64,some .u64,some .u64,some .u64,some .u64,some .i64,some .u8,some .u8,some .u8,some .u8,some .u8,some .u8,some .u8,some .u8,some .u8,some .u8,some .u8,some .u8,some .u8,some .u8,some .u8,some .u8,some .u8,some .u8,some .u8,some .u8,some .u8,some .u8,some .u8,some .u8,some .u8,some .u8,some .u8,some .u8,some .u8,some .u8,some .u8,some .u8,some .u8,some .u8,some .u8,some .u8,some .u8,some .u8,some .u8,some .u8,some .u8,some .u8,some .u8,some .u8,some .u8,some .u8,some .u8,some .u8,some .u8,some .u8,some .u8,some .u8,some .u8,some .u8,some .u8,some .u8,some .u8,some .u8,some .u8,some .u8,some .u8,some .u8,some .u8,some .u8]] (.cons (.var 4) (.cons (.lit 0) (.cons (.lit 2097152) (.cons (.lit 0) (.cons (.lit 0) (.cons (.lit 0) (.cons (.lit 0) (.cons (.lit 0) (.cons (.lit 0) (.cons (.lit 0) (.cons (.lit 0) (.cons (.lit 3145792) (.cons (.lit 1026) (.cons (.lit 0) (.cons (.lit 0) (.cons (.lit 0) (.cons (.lit 0) (.cons (.lit 0) (.cons (.lit 0) (.cons (.lit 0) (.cons (.lit 0) (.cons (.lit 0) (.cons (.lit 0) (.cons (.lit 0) (.cons (.lit 0) (.cons (.lit 0) (.cons (.lit 0) (.cons (.lit 0) (.cons (.lit 0) (.cons (.lit 0) (.cons (.lit 0) (.cons (.lit 0) (.cons (.lit 0) (.cons (.lit 0) (.cons (.lit 0) (.cons (.lit 0) (.cons (.lit 0) (.cons (.lit 0) (.cons (.lit 0) (.cons (.lit 0) (.cons (.lit 0) (.cons (.lit 0) (.cons (.lit 0) (.cons (.lit 0) (.cons (.lit 0) (.cons (.lit 0) (.cons (.lit 0) (.cons (.lit 0) (.cons (.lit 0) (.cons (.lit 0) (.cons (.lit 0) (.cons (.lit 0) (.cons (.lit 0) (.cons (.lit 0) (.cons (.lit 0) (.cons (.lit 0) (.cons (.lit 0) (.cons (.lit 0) (.cons (.lit 0) (.cons (.lit 0) (.cons (.lit 0) (.cons (.lit 0) (.cons (.lit 0) (.cons (.lit 0) (.cons (.lit 0) (.cons (.lit 0) (.cons (.lit 0) (.cons (.lit 0) (.cons (.lit 0) (.cons (.lit 0) (.cons (.lit 0) (.cons (.lit 0) (.cons (.lit 0) (.cons (.lit 0) (.cons (.lit 0) (.cons (.lit 0) (.cons (.lit 0) (.cons (.lit 0) (.consl (.lvar 3) (.consl .lnil (.consl (.lvar 8) (.consl (.lrep (.lit 64) (.cons (.lit 0) .nil)) (.consl .lnil (.consl .lnil .nil))))))))))))))))))))))))))))))))))))))))))))))))))))))))))))))))))))))))))))))))))))
(.br (.lt (.lit 0) (.var 9))
(.br (.lt (.len (.lvar 91)) (.lit 1073741824))
(.br (.lt (.len (.lvar 92)) (.lit 1073741824))
(.cut 1 93 [.int .i64]
(.next 1 (.cons (.bin .sub .i64 (.var 9) (.lit 1)) .nil))
(.br (.lt (.var 86) (.lit 0))
.panic
(.br (.lt (.var 86) (.len (.lvar 1)))
(.call 1 [.int .i64] (.cons (.get (.lvar 1) (.var 86) 0) (.cons (.get (.lvar 1) (.var 86) 1) (.cons (.get (.lvar 1) (.var 86) 2) (.cons (.get (.lvar 1) (.var 86) 3) (.consb (.getb (.lvar 1) (.var 86) 4) (.cons (.get (.lvar 1) (.var 86) 5) (.cons (.get (.lvar 1) (.var 86) 6) (.cons (.get (.lvar 1) (.var 86) 7) (.cons (.get (.lvar 1) (.var 86) 8) .nil))))))))) 94
(.br (.eq (.bin .andNot .i64 (.var 94) (.var 21)) (.lit 0))
(.br (.eq (.get (.lvar 1) (.var 86) 0) (.lit 0))
(.br (.lt (.get (.lvar 1) (.var 86) 5) (.lit 0))
.panic
(.br (.lt (.get (.lvar 1) (.var 86) 5) (.lit 11))
(.call 2 [.int .u64] (.vs 10 11 (.cons (.get (.lvar 1) (.var 86) 0) (.cons (.get (.lvar 1) (.var 86) 1) (.cons (.get (.lvar 1) (.var 86) 2) (.cons (.get (.lvar 1) (.var 86) 3) (.consb (.getb (.lvar 1) (.var 86) 4) (.cons (.get (.lvar 1) (.var 86) 5) (.cons (.get (.lvar 1) (.var 86) 6) (.cons (.get (.lvar 1) (.var 86) 7) (.cons (.get (.lvar 1) (.var 86) 8) .nil)))))))))) 95
(.call 3 [.int .u64,.int .i64] (.cons (.get (.lvar 1) (.var 86) 1) (.cons (.get (.lvar 1) (.var 86) 2) (.cons (.nth (.get (.lvar 1) (.var 86) 5) (.vs 10 11 .nil)) (.cons (.var 95) .nil)))) 96
(.next 0 (.cons (.var 93) (.cons (.ite (.eq (.get (.lvar 1) (.var 86) 5) (.lit 0)) (.var 96) (.var 10)) (.cons (.ite (.eq (.get (.lvar 1) (.var 86) 5) (.lit 1)) (.var 96) (.var 11)) (.cons (.ite (.eq (.get (.lvar 1) (.var 86) 5) (.lit 2)) (.var 96) (.var 12)) (.cons (.ite (.eq (.get (.lvar 1) (.var 86) 5) (.lit 3)) (.var 96) (.var 13)) (.cons (.ite (.eq (.get (.lvar 1) (.var 86) 5) (.lit 4)) (.var 96) (.var 14)) (.cons (.ite (.eq (.get (.lvar 1) (.var 86) 5) (.lit 5)) (.var 96) (.var 15)) (.cons (.ite (.eq (.get (.lvar 1) (.var 86) 5) (.lit 6)) (.var 96) (.var 16)) (.cons (.ite (.eq (.get (.lvar 1) (.var 86) 5) (.lit 7)) (.var 96) (.var 17)) (.cons (.ite (.eq (.get (.lvar 1) (.var 86) 5) (.lit 8)) (.var 96) (.var 18)) (.cons (.ite (.eq (.get (.lvar 1) (.var 86) 5) (.lit 9)) (.var 96) (.var 19)) (.cons (.ite (.eq (.get (.lvar 1) (.var 86) 5) (.lit 10)) (.var 96) (.var 20)) (.cons (.bin .or .i64 (.var 21) (.bin .shl .i64 (.lit 1) (.get (.lvar 1) (.var 86) 5))) (.vs 22 64 (.cons (.bin .add .i64 (.var 86) (.lit 1)) (.consl (.lvar 87) (.consl (.lvar 88) (.consl (.lvar 89) (.consl (.lvar 90) (.consl (.lapp (.lvar 91) (.cons (.var 86) .nil)) (.consl (.lapp (.lvar 92) (.vs 10 76 .nil)) .nil))))))))))))))))))))))))
.panic))
(.br (.eq (.get (.lvar 1) (.var 86) 0) (.lit 1))
(.br (.lt (.get (.lvar 1) (.var 86) 6) (.lit 0))
.panic
(.br (.lt (.get (.lvar 1) (.var 86) 6) (.lit 11))
(.call 7 [.int .u64,.int .i64] (.consl (.lvar 7) (.consl (.lvar 89) (.consl (.lvar 90) (.consl .lnil (.cons (.bin .add .u64 (.nth (.get (.lvar 1) (.var 86) 6) (.vs 10 11 .nil)) (.conv .u64 (.get (.lvar 1) (.var 86) 7))) (.cons (.conv .i64 (.get (.lvar 1) (.var 86) 3)) .nil)))))) 95
(.br (.eq (.var 96) (.lit 0))
(.br (.lt (.get (.lvar 1) (.var 86) 5) (.lit 0))
.panic
(.br (.lt (.get (.lvar 1) (.var 86) 5) (.lit 11))
(.next 0 (.cons (.var 93) (.cons (.ite (.eq (.get (.lvar 1) (.var 86) 5) (.lit 0)) (.var 95) (.var 10)) (.cons (.ite (.eq (.get (.lvar 1) (.var 86) 5) (.lit 1)) (.var 95) (.var 11)) (.cons (.ite (.eq (.get (.lvar 1) (.var 86) 5) (.lit 2)) (.var 95) (.var 12)) (.cons (.ite (.eq (.get (.lvar 1) (.var 86) 5) (.lit 3)) (.var 95) (.var 13)) (.cons (.ite (.eq (.get (.lvar 1) (.var 86) 5) (.lit 4)) (.var 95) (.var 14)) (.cons (.ite (.eq (.get (.lvar 1) (.var 86) 5) (.lit 5)) (.var 95) (.var 15)) (.cons (.ite (.eq (.get (.lvar 1) (.var 86) 5) (.lit 6)) (.var 95) (.var 16)) (.cons (.ite (.eq (.get (.lvar 1) (.var 86) 5) (.lit 7)) (.var 95) (.var 17)) (.cons (.ite (.eq (.get (.lvar 1) (.var 86) 5) (.lit 8)) (.var 95) (.var 18)) (.cons (.ite (.eq (.get (.lvar 1) (.var 86) 5) (.lit 9)) (.var 95) (.var 19)) (.cons (.ite (.eq (.get (.lvar 1) (.var 86) 5) (.lit 10)) (.var 95) (.var 20)) (.cons (.bin .or .i64 (.var 21) (.bin .shl .i64 (.lit 1) (.get (.lvar 1) (.var 86) 5))) (.vs 22 64 (.cons (.bin .add .i64 (.var 86) (.lit 1)) (.consl (.lvar 87) (.consl (.lvar 88) (.consl (.lvar 89) (.consl (.lvar 90) (.consl (.lapp (.lvar 91) (.cons (.var 86) .nil)) (.consl (.lapp (.lvar 92) (.vs 10 76 .nil)) .nil))))))))))))))))))))))
.panic))
(.call 12 [.sl [some .u8] 5] (.consl (.lvar 7) (.consl (.lvar 89) (.consl (.lvar 90) (.consl .lnil .nil)))) 97
(.leaf (.consl (.lapp (.lvar 91) (.cons (.var 86) .nil)) (.consl (.lapp (.lvar 92) (.vs 10 76 .nil)) (.cons (.lit 3) (.cons (.lit 0) (.consl (.lvar 97) (.consl (.lvar 88) (.cons (.var 93) (.cons (.lit 0) .nil))))))))))))
.panic))
(.br (.eq (.get (.lvar 1) (.var 86) 0) (.lit 2))
(.br (.lt (.get (.lvar 1) (.var 86) 5) (.lit 0))
.panic
(.br (.lt (.get (.lvar 1) (.var 86) 5) (.lit 11))
(.br (.lt (.get (.lvar 1) (.var 86) 6) (.lit 0))
.panic
(.br (.lt (.get (.lvar 1) (.var 86) 6) (.lit 11))
(.call 8 [.bool] (.cons (.conv .i64 (.get (.lvar 1) (.var 86) 3)) .nil) 95
(.br (.bvar 95)
(.call 9 [.int .i64,.bool] (.cons (.bin .add .u64 (.nth (.get (.lvar 1) (.var 86) 5) (.vs 10 11 .nil)) (.conv .u64 (.get (.lvar 1) (.var 86) 7))) (.cons (.conv .i64 (.get (.lvar 1) (.var 86) 3)) (.cons (.lit 1048576) (.consl (.lvar 7) .nil)))) 96
(.br (.bvar 97)
(.call 12 [.sl [some .u8] 5] (.consl (.lvar 7) (.consl (.lvar 89) (.consl (.lvar 90) (.consl .lnil .nil)))) 98
(.leaf (.consl (.lapp (.lvar 91) (.cons (.var 86) .nil)) (.consl (.lapp (.lvar 92) (.vs 10 76 .nil)) (.cons (.lit 3) (.cons (.lit 0) (.consl (.lvar 98) (.consl (.lvar 88) (.cons (.var 93) (.cons (.lit 0) .nil))))))))))
(.call 9 [.int .i64,.bool] (.cons (.bin .add .u64 (.nth (.get (.lvar 1) (.var 86) 5) (.vs 10 11 .nil)) (.conv .u64 (.get (.lvar 1) (.var 86) 7))) (.cons (.conv .i64 (.get (.lvar 1) (.var 86) 3)) (.cons (.lit 2097152) (.consl (.lvar 89) .nil)))) 98
(.br (.bvar 99)
(.loop 2 100 [.int .i64,.int .u64,.list [some .u8],.list [some .u8]] (.cons (.lit 0) (.cons (.nth (.get (.lvar 1) (.var 86) 6) (.vs 10 11 .nil)) (.consl (.lvar 89) (.consl (.lvar 90) .nil))))
(.br (.lt (.var 100) (.conv .i64 (.get (.lvar 1) (.var 86) 3)))
(.br (.lt (.bin .add .i64 (.var 98) (.var 100)) (.lit 0))
.panic
(.br (.lt (.bin .add .i64 (.var 98) (.var 100)) (.len (.lvar 102)))
(.next 2 (.cons (.bin .add .i64 (.var 100) (.lit 1)) (.cons (.bin .shr .u64 (.var 101) (.lit 8)) (.consl (.lset (.lvar 102) (.bin .add .i64 (.var 98) (.var 100)) 0 (.conv .u8 (.bin .and .u64 (.var 101) (.lit 255)))) (.consl (.lvar 103) .nil)))))
.panic))
(.call 11 (kF64) (.consl (.lvar 7) (.consl (.lvar 102) (.consl (.lvar 103) (.consl .lnil .nil)))) 104
(.next 0 (.cons (.var 93) (.vs 10 12 (.vs 104 64 (.cons (.bin .add .i64 (.var 86) (.lit 1)) (.consl (.lvar 87) (.consl (.lvar 88) (.consl (.lvar 102) (.consl (.lvar 103) (.consl (.lapp (.lvar 91) (.cons (.var 86) .nil)) (.consl (.lapp (.lvar 92) (.vs 10 76 .nil)) .nil))))))))))))))
(.call 9 [.int .i64,.bool] (.cons (.bin .add .u64 (.nth (.get (.lvar 1) (.var 86) 5) (.vs 10 11 .nil)) (.conv .u64 (.get (.lvar 1) (.var 86) 7))) (.cons (.conv .i64 (.get (.lvar 1) (.var 86) 3)) (.cons (.lit 3145728) (.consl (.lvar 90) .nil)))) 100
(.br (.bvar 101)
(.loop 2 102 [.int .i64,.int .u64,.list [some .u8],.list [some .u8]] (.cons (.lit 0) (.cons (.nth (.get (.lvar 1) (.var 86) 6) (.vs 10 11 .nil)) (.consl (.lvar 89) (.consl (.lvar 90) .nil))))
(.br (.lt (.var 102) (.conv .i64 (.get (.lvar 1) (.var 86) 3)))
(.br (.lt (.bin .add .i64 (.var 100) (.var 102)) (.lit 0))
.panic
(.br (.lt (.bin .add .i64 (.var 100) (.var 102)) (.len (.lvar 105)))
(.next 2 (.cons (.bin .add .i64 (.var 102) (.lit 1)) (.cons (.bin .shr .u64 (.var 103) (.lit 8)) (.consl (.lvar 104) (.consl (.lset (.lvar 105) (.bin .add .i64 (.var 100) (.var 102)) 0 (.conv .u8 (.bin .and .u64 (.var 103) (.lit 255)))) .nil)))))
.panic))
(.call 11 (kF64) (.consl (.lvar 7) (.consl (.lvar 104) (.consl (.lvar 105) (.consl .lnil .nil)))) 106
(.next 0 (.cons (.var 93) (.vs 10 12 (.vs 106 64 (.cons (.bin .add .i64 (.var 86) (.lit 1)) (.consl (.lvar 87) (.consl (.lvar 88) (.consl (.lvar 104) (.consl (.lvar 105) (.consl (.lapp (.lvar 91) (.cons (.var 86) .nil)) (.consl (.lapp (.lvar 92) (.vs 10 76 .nil)) .nil))))))))))))))
(.call 9 [.int .i64,.bool] (.cons (.bin .add .u64 (.nth (.get (.lvar 1) (.var 86) 5) (.vs 10 11 .nil)) (.conv .u64 (.get (.lvar 1) (.var 86) 7))) (.cons (.conv .i64 (.get (.lvar 1) (.var 86) 3)) (.cons (.lit 4194304) (.consl .lnil .nil)))) 102
(.br (.bvar 103)
(.loop 2 104 [.int .i64,.int .u64,.list [some .u8],.list [some .u8]] (.cons (.lit 0) (.cons (.nth (.get (.lvar 1) (.var 86) 6) (.vs 10 11 .nil)) (.consl (.lvar 89) (.consl (.lvar 90) .nil))))
(.br (.lt (.var 104) (.conv .i64 (.get (.lvar 1) (.var 86) 3)))
.panic
(.call 11 (kF64) (.consl (.lvar 7) (.consl (.lvar 106) (.consl (.lvar 107) (.consl .lnil .nil)))) 108
(.next 0 (.cons (.var 93) (.vs 10 12 (.vs 108 64 (.cons (.bin .add .i64 (.var 86) (.lit 1)) (.consl (.lvar 87) (.consl (.lvar 88) (.consl (.lvar 106) (.consl (.lvar 107) (.consl (.lapp (.lvar 91) (.cons (.var 86) .nil)) (.consl (.lapp (.lvar 92) (.vs 10 76 .nil)) .nil))))))))))))))
(.call 12 [.sl [some .u8] 5] (.consl (.lvar 7) (.consl (.lvar 89) (.consl (.lvar 90) (.consl .lnil .nil)))) 104
(.leaf (.consl (.lapp (.lvar 91) (.cons (.var 86) .nil)) (.consl (.lapp (.lvar 92) (.vs 10 76 .nil)) (.cons (.lit 3) (.cons (.lit 0) (.consl (.lvar 104) (.consl (.lvar 88) (.cons (.var 93) (.cons (.lit 0) .nil))))))))))))))))))
(.call 12 [.sl [some .u8] 5] (.consl (.lvar 7) (.consl (.lvar 89) (.consl (.lvar 90) (.consl .lnil .nil)))) 96
(.leaf (.consl (.lapp (.lvar 91) (.cons (.var 86) .nil)) (.consl (.lapp (.lvar 92) (.vs 10 76 .nil)) (.cons (.lit 3) (.cons (.lit 0) (.consl (.lvar 96) (.consl (.lvar 88) (.cons (.var 93) (.cons (.lit 0) .nil))))))))))))
.panic))
.panic))
(.br (.eq (.get (.lvar 1) (.var 86) 0) (.lit 3))
(.br (.lt (.get (.lvar 1) (.var 86) 5) (.lit 0))
.panic
(.br (.lt (.get (.lvar 1) (.var 86) 5) (.lit 11))
(.call 2 [.int .u64] (.vs 10 11 (.cons (.get (.lvar 1) (.var 86) 0) (.cons (.get (.lvar 1) (.var 86) 1) (.cons (.get (.lvar 1) (.var 86) 2) (.cons (.get (.lvar 1) (.var 86) 3) (.consb (.getb (.lvar 1) (.var 86) 4) (.cons (.get (.lvar 1) (.var 86) 5) (.cons (.get (.lvar 1) (.var 86) 6) (.cons (.get (.lvar 1) (.var 86) 7) (.cons (.get (.lvar 1) (.var 86) 8) .nil)))))))))) 95
(.call 4 [.bool,.int .i64] (.cons (.get (.lvar 1) (.var 86) 1) (.cons (.lit 64) (.cons (.nth (.get (.lvar 1) (.var 86) 5) (.vs 10 11 .nil)) (.cons (.var 95) .nil)))) 96
(.br (.bvar 96)
(.call 5 [.int .i64,.bool] (.cons (.var 86) (.cons (.get (.lvar 1) (.var 86) 0) (.cons (.get (.lvar 1) (.var 86) 1) (.cons (.get (.lvar 1) (.var 86) 2) (.cons (.get (.lvar 1) (.var 86) 3) (.consb (.getb (.lvar 1) (.var 86) 4) (.cons (.get (.lvar 1) (.var 86) 5) (.cons (.get (.lvar 1) (.var 86) 6) (.cons (.get (.lvar 1) (.var 86) 7) (.cons (.get (.lvar 1) (.var 86) 8) .nil)))))))))) 98
(.next 0 (.cons (.var 93) (.vs 10 76 (.cons (.var 98) (.consl (.lvar 87) (.consl (.lvar 88) (.consl (.lvar 89) (.consl (.lvar 90) (.consl (.lapp (.lvar 91) (.cons (.var 86) .nil)) (.consl (.lapp (.lvar 92) (.vs 10 76 .nil)) .nil)))))))))))
(.next 0 (.cons (.var 93) (.vs 10 76 (.cons (.bin .add .i64 (.var 86) (.lit 1)) (.consl (.lvar 87) (.consl (.lvar 88) (.consl (.lvar 89) (.consl (.lvar 90) (.consl (.lapp (.lvar 91) (.cons (.var 86) .nil)) (.consl (.lapp (.lvar 92) (.vs 10 76 .nil)) .nil)))))))))))))
.panic))
(.br (.eq (.get (.lvar 1) (.var 86) 0) (.lit 4))
(.call 5 [.int .i64,.bool] (.cons (.var 86) (.cons (.get (.lvar 1) (.var 86) 0) (.cons (.get (.lvar 1) (.var 86) 1) (.cons (.get (.lvar 1) (.var 86) 2) (.cons (.get (.lvar 1) (.var 86) 3) (.consb (.getb (.lvar 1) (.var 86) 4) (.cons (.get (.lvar 1) (.var 86) 5) (.cons (.get (.lvar 1) (.var 86) 6) (.cons (.get (.lvar 1) (.var 86) 7) (.cons (.get (.lvar 1) (.var 86) 8) .nil)))))))))) 95
(.next 0 (.cons (.var 93) (.vs 10 76 (.cons (.var 95) (.consl (.lvar 87) (.consl (.lvar 88) (.consl (.lvar 89) (.consl (.lvar 90) (.consl (.lapp (.lvar 91) (.cons (.var 86) .nil)) (.consl (.lapp (.lvar 92) (.vs 10 76 .nil)) .nil)))))))))))
(.br (.eq (.get (.lvar 1) (.var 86) 0) (.lit 5))
(.br (.eq (.len (.lvar 87)) (.lit 0))
(.call 12 [.sl [some .u8] 5] (.consl (.lvar 7) (.consl (.lvar 89) (.consl (.lvar 90) (.consl .lnil .nil)))) 95
(.leaf (.consl (.lapp (.lvar 91) (.cons (.var 86) .nil)) (.consl (.lapp (.lvar 92) (.vs 10 76 .nil)) (.cons (.lit 2) (.cons (.lit 0) (.consl (.lvar 95) (.consl (.lvar 88) (.cons (.var 93) (.cons (.lit 0) .nil))))))))))
(.br (.lt (.lit 0) (.len (.lvar 87)))
(.br (.lt (.len (.lvar 87)) (.lit 1))
.panic
(.loop 2 95 [.int .i64,.list [some .u64]] (.cons (.lit 1) (.consl .lnil .nil))
(.call 6 [.int .i64] (.cons (.get (.lvar 1) (.var 86) 8) .nil) 97
(.br (.lt (.var 97) (.var 95))
(.br (.lt (.lit 5) (.len (.lvar 96)))
(.stuck 220)
(.br (.lt (.len (.lvar 88)) (.lit 1073741824))
(.next 0 (.cons (.var 93) (.cons (.get (.lvar 87) (.lit 0) 0) (.cons (.lit 0) (.cons (.lit 0) (.cons (.lit 0) (.cons (.lit 0) (.cons (.lit 0) (.vs 16 5 (.cons (.bin .andNot .i64 (.bin .or .i64 (.bin .andNot .i64 (.bin .or .i64 (.bin .andNot .i64 (.bin .or .i64 (.bin .andNot .i64 (.bin .or .i64 (.bin .andNot .i64 (.bin .or .i64 (.bin .or .i64 (.var 21) (.lit 1)) (.lit 2)) (.lit 2)) (.lit 4)) (.lit 4)) (.lit 8)) (.lit 8)) (.lit 16)) (.lit 16)) (.lit 32)) (.lit 32)) (.vs 22 64 (.cons (.bin .add .i64 (.var 86) (.lit 1)) (.consl (.ldrop (.lvar 87) (.lit 1)) (.consl (.lapp (.lvar 88) (.cons (.get (.lvar 1) (.var 86) 8) (.cons (.get (.lvar 87) (.lit 0) 0) (.cons (.len (.lvar 96)) (.cons (.get (.lvar 96) (.lit 0) 0) (.cons (.get (.lvar 96) (.lit 1) 0) (.cons (.get (.lvar 96) (.lit 2) 0) (.cons (.get (.lvar 96) (.lit 3) 0) (.cons (.get (.lvar 96) (.lit 4) 0) .nil))))))))) (.consl (.lvar 89) (.consl (.lvar 90) (.consl (.lapp (.lvar 91) (.cons (.var 86) .nil)) (.consl (.lapp (.lvar 92) (.vs 10 76 .nil)) .nil))))))))))))))))))
.panic))
(.br (.lt (.var 95) (.lit 0))
.panic
(.br (.lt (.var 95) (.lit 11))
(.br (.lt (.len (.lvar 96)) (.lit 1073741824))
(.next 2 (.cons (.bin .add .i64 (.var 95) (.lit 1)) (.consl (.lapp (.lvar 96) (.cons (.nth (.var 95) (.vs 10 11 .nil)) .nil)) .nil)))
.panic)
.panic))))))
.panic))
(.br (.eq (.get (.lvar 1) (.var 86) 0) (.lit 6))
(.call 12 [.sl [some .u8] 5] (.consl (.lvar 7) (.consl (.lvar 89) (.consl (.lvar 90) (.consl .lnil .nil)))) 95
(.leaf (.consl (.lapp (.lvar 91) (.cons (.var 86) .nil)) (.consl (.lapp (.lvar 92) (.vs 10 76 .nil)) (.cons (.lit 1) (.cons (.var 10) (.consl (.lvar 95) (.consl (.lvar 88) (.cons (.var 93) (.cons (.lit 0) .nil))))))))))
(.next 0 (.cons (.var 93) (.vs 10 76 (.cons (.bin .add .i64 (.var 86) (.lit 1)) (.consl (.lvar 87) (.consl (.lvar 88) (.consl (.lvar 89) (.consl (.lvar 90) (.consl (.lapp (.lvar 91) (.cons (.var 86) .nil)) (.consl (.lapp (.lvar 92) (.vs 10 76 .nil)) .nil)))))))))))))))))
(.call 12 [.sl [some .u8] 5] (.consl (.lvar 7) (.consl (.lvar 89) (.consl (.lvar 90) (.consl .lnil .nil)))) 95
(.leaf (.consl (.lapp (.lvar 91) (.cons (.var 86) .nil)) (.consl (.lapp (.lvar 92) (.vs 10 76 .nil)) (.cons (.lit 3) (.cons (.lit 0) (.consl (.lvar 95) (.consl (.lvar 88) (.cons (.var 93) (.cons (.lit 0) .nil))))))))))))
.panic)))
.panic)
.panic)
(.call 12 [.sl [some .u8] 5] (.consl (.lvar 7) (.consl (.lvar 89) (.consl (.lvar 90) (.consl .lnil .nil)))) 93
(.leaf (.consl (.lvar 91) (.consl (.lvar 92) (.cons (.lit 0) (.cons (.lit 0) (.consl (.lvar 93) (.consl (.lvar 88) (.cons (.var 9) (.cons (.lit 0) .nil)))))))))))))))))
(.leaf (.consl .lnil (.consl .lnil (.cons (.lit 0) (.cons (.lit 0) (.consl .lnil (.consl .lnil (.cons (.lit 0) (.cons (.lit 2) .nil))))))))))
(.leaf (.consl .lnil (.consl .lnil (.cons (.lit 0) (.cons (.lit 0) (.consl .lnil (.consl .lnil (.cons (.lit 0) (.cons (.var 6) .nil)))))))))))
def nJ:Spec:=⟨fun k=>match k with | 0=>dT | 1=>dQ | 2=>jG | 3=>ew | 4=>gN | 5=>fi | 6=>dk | 7=>dR | 8=>jH | 9=>di | 10=>dj | 11=>dS | 12=>jJ | _=>fun _=>[],fun k=>match k with | 0=>cW | 1=>dN | 2=>ju | 7=>cU | 9=>cI | 10=>cJ | 11=>cV | 12=>gK | _=>fun _=>True⟩
set_option maxRecDepth 100000 in
theorem vm:aM tys_MrD [jC 0,jz 1,pm 2,fN 3,jv 4,lW 5,iS 6,jA 7,qK 8,iQ 9,iR 10,jB 11,pp 12] [(30,Try.f30,[(999999,[]),(999998,[])],[]),(45,Try.f45,[(999999,[]),(999998,[])],[]),(50,Try.f50,[(6,[.tmpI 6 .i64,.celS 21 1 [some .u64] 30,.top 30,.top 31,.top 32,.top 33,.top 36,.top 37,.top 38,.top 39,.top 40,.top 41,.top 42,.top 43,.top 44,.top 45,.top 46,.top 47,.top 34,.top 35]),(999999,[]),(999998,[])],[]),(29,Try.f29,[(999999,[]),(999998,[])],[]),(41,Try.f41,[(999999,[]),(999998,[])],[]),(47,Try.f47,[(9,[.tmpI 12 .i64,.tmpI 3 .u64,.row 7,.row 8,.top 28,.top 29,.top 30,.top 33,.top 34,.top 35,.top 36,.top 37,.top 38,.top 39,.top 40,.top 41,.top 42,.top 31,.top 32]),(999999,[]),(999998,[])],[]),(70,Try.f70,[(999999,[]),(999998,[])],[])] [(10,[.tmpI 3 .i64,.cels 10 3 [some .u64,some .u64,some .u64,some .u64,some .u64,some .u64,some .u64,some .u64,some .u64,some .u64,some .u64,some .i64,some .u8,some .u8,some .u8,some .u8,some .u8,some .u8,some .u8,some .u8,some .u8,some .u8,some .u8,some .u8,some .u8,some .u8,some .u8,some .u8,some .u8,some .u8,some .u8,some .u8,some .u8,some .u8,some .u8,some .u8,some .u8,some .u8,some .u8,some .u8,some .u8,some .u8,some .u8,some .u8,some .u8,some .u8,some .u8,some .u8,some .u8,some .u8,some .u8,some .u8,some .u8,some .u8,some .u8,some .u8,some .u8,some .u8,some .u8,some .u8,some .u8,some .u8,some .u8,some .u8,some .u8,some .u8,some .u8,some .u8,some .u8,some .u8,some .u8,some .u8,some .u8,some .u8,some .u8,some .u8,some .i64],.celV 10 80 [some .u64] 30,.celS 10 81 evKs 39,.row 7,.row 8,.tmpS 15 [some .i64] 3,.tmpS 16 [some .u64,some .u64,some .u64,some .u64,some .u64,some .u64,some .u64,some .u64,some .u64,some .u64,some .u64,some .i64,some .u8,some .u8,some .u8,some .u8,some .u8,some .u8,some .u8,some .u8,some .u8,some .u8,some .u8,some .u8,some .u8,some .u8,some .u8,some .u8,some .u8,some .u8,some .u8,some .u8,some .u8,some .u8,some .u8,some .u8,some .u8,some .u8,some .u8,some .u8,some .u8,some .u8,some .u8,some .u8,some .u8,some .u8,some .u8,some .u8,some .u8,some .u8,some .u8,some .u8,some .u8,some .u8,some .u8,some .u8,some .u8,some .u8,some .u8,some .u8,some .u8,some .u8,some .u8,some .u8,some .u8,some .u8,some .u8,some .u8,some .u8,some .u8,some .u8,some .u8,some .u8,some .u8,some .u8,some .u8] 56,.top 48,.top 49,.top 50,.top 51,.top 52,.top 53,.top 54,.top 55,.top 56,.top 57,.top 58,.top 59,.top 60,.top 61,.top 62,.top 63,.top 64,.top 65,.top 67,.top 68,.top 66,.top 69,.top 70,.top 18,.top 19,.top 71,.top 72,.top 73,.top 74]),(999999,[]),(999998,[])] [(14,[.tmpI 3 .i64,.top 50,.top 51,.top 52,.top 53,.top 54,.top 55,.top 56,.top 57,.top 58,.top 59,.top 60,.top 61,.top 62,.top 63,.top 64,.top 65])] 200 Try.f16 [.agg kD,.one (.sl [some .u8] 5),.one (.sl [some .u64] 30),.one (.int .i64)] [.one (.sl [some .i64] 3),.one (.sl [some .u64,some .u64,some .u64,some .u64,some .u64,some .u64,some .u64,some .u64,some .u64,some .u64,some .u64,some .i64,some .u8,some .u8,some .u8,some .u8,some .u8,some .u8,some .u8,some .u8,some .u8,some .u8,some .u8,some .u8,some .u8,some .u8,some .u8,some .u8,some .u8,some .u8,some .u8,some .u8,some .u8,some .u8,some .u8,some .u8,some .u8,some .u8,some .u8,some .u8,some .u8,some .u8,some .u8,some .u8,some .u8,some .u8,some .u8,some .u8,some .u8,some .u8,some .u8,some .u8,some .u8,some .u8,some .u8,some .u8,some .u8,some .u8,some .u8,some .u8,some .u8,some .u8,some .u8,some .u8,some .u8,some .u8,some .u8,some .u8,some .u8,some .u8,some .u8,some .u8,some .u8,some .u8,some .u8,some .u8] 56),.agg kOut,.one (.int .i64)] true [.int .i64,.list [some .i8,some .i8,some .i8,some .i8,none,some .i8,some .i8,some .i64,some .i64],.list [some .u8],.list [some .u64],.int .i64] sT_jsnaps:=⟨by kernel_rfl,by kernel_rfl,by kernel_rfl⟩
def cT:List Dt→Prop
 | [.z x0,.l x1,.l x2,.l x3,.z x4]=>let f (p:Prog) (cx:List (List Int)) (an:List (List Int)) (fu:Int):Prop:=(p.l.length≤maxLen∧cx.length≤maxLen)∧an.length≤maxLen; f ⟨x0,x1⟩ x2 x3 x4
 | _=>False
set_option maxRecDepth 100000 in
set_option maxHeartbeats 8000000 in
theorem uY (p:Prog) (hp:Prog.ok p) (cx:List (List Int)) (hcx:RowsIn [some .u8] cx) (an:List (List Int)) (han:RowsIn [some .u64] an) (fu:Int) (hfu:inK .i64 fu=true) (hp:cT [.z p.ctx,.l p.l,.l cx,.l an,.z fu]) (ρ:Env) (g:ah ρ 0 [.int .i64,.list [some .i8,some .i8,some .i8,some .i8,none,some .i8,some .i8,some .i64,some .i64],.list [some .u8],.list [some .u64],.int .i64]=[.z p.ctx,.l p.l,.l cx,.l an,.z fu]):sT_jsnaps.asks nJ (fun ρ e=>e.D ρ=dP [.z p.ctx,.l p.l,.l cx,.l an,.z fu]) ρ fun _ _=>False:=by
 simp only[cT,b2i_one,Ins.eta,Prog.eta,aa,Mem.eta,Mach.eta] at hp
 have keepg:=g
 simp only[ah,varD,List.cons.injEq,Dt.z.injEq,Dt.l.injEq,b2i_eq_iff,Nat.reduceAdd,and_true] at g
 simp only[sT_jsnaps,nJ,kF64,dT,dQ,jG,ew,gN,fi,dk,dR,jH,di,dj,dS,jJ,jr,jo,pg,fJ,jk,lS,iO,jp,qB,iM,iN,jq,pi,dP,jn,cW,dN,ju,cU,cI,cJ,cV,gK,Tr.asks,am,okDs,okD,eqs,E.I,E.B,E.L,E.R,E.D,E.vs,dI,dB,dL,varD,ah,List.getElem?_cons_zero,List.getElem?_cons_succ,List.cons_append,List.nil_append,Nat.zero_add,Nat.add_zero,Nat.reduceAdd,and_true,true_and,b2i_one,-eq_self,Ins.eta,Prog.eta,aa,Mem.eta,Mach.eta,g]
 obtain⟨k0_i0,k0_l1,k0_l2,k0_l3,k0_i4⟩:=g
 refine⟨?_,?_⟩
 ·exact hp.1.1
 intro e; (try simp only[e,Ins.eta,Prog.eta,aa,Mem.eta,Mach.eta,-eq_self]); clear e
 refine⟨fun c0=> ?_,fun c0=> ?_⟩
 refine⟨fun c1=> ?_,fun c1=> ?_⟩
 refine⟨fun c2=> ?_,fun c2=> ?_⟩
 ·have e:mrun p cx an fu=_:=ef (dr (eqI c0) (.inr (.inl (of_decide_eq_true c2)))) (by decide)
  have ej:bJ p cx an fu=_:=cy (dr (eqI c0) (.inr (.inl (of_decide_eq_true c2)))) (by decide)
  rw[e,ej]
 refine⟨fun c3=> ?_,fun c3=> ?_⟩
 ·have e:mrun p cx an fu=_:=ef (dr (eqI c0) (.inr (.inr (of_decide_eq_true c3)))) (by decide)
  have ej:bJ p cx an fu=_:=cy (dr (eqI c0) (.inr (.inr (of_decide_eq_true c3)))) (by decide)
  rw[e,ej]
 refine⟨fun c4=> ?_,fun c4=> ?_⟩
 ·exact absurd (of_decide_eq_true c4) (by have:=kh (eqI c0); have:=eqI c1; omega)
 refine⟨?_,?_⟩
 ·first | exact Nat.zero_le _ | exact Nat.le_trans (by have:=of_decide_eq_false c4; omega:cx.length≤256) (by decide)
 intro e; have k0_l7:ρ.l 7=[]:=e; (try simp only[e,Ins.eta,Prog.eta,aa,Mem.eta,Mach.eta,-eq_self]); clear e
 refine⟨?_,?_⟩
 ·first | exact Nat.zero_le _ | exact Nat.le_trans (by have:=of_decide_eq_false c4; omega:cx.length≤256) (by decide)
 intro e; (try simp only[e,Ins.eta,Prog.eta,aa,Mem.eta,Mach.eta,-eq_self]); clear e
 have hok:=eqI c0
 have hf:0≤fu∧fu≤10000:=by have:=of_decide_eq_false c2; have:=of_decide_eq_false c3; omega
 have hcx:cx.length≤256:=by have:=of_decide_eq_false c4; omega
 have hI:=cA hp.1.1 hok
 have hop:bq p cx fu=0:=py hok (eqI c1) hf.1 hf.2
 refine⟨JInv p cx an fu,fun ds=>(dI ds 0).toNat,JAt.init hf.1 hI.1.2.1,?_⟩
 intro ρ1 ha1 hx1 hi1
 obtain⟨_,z0,z1,z2,z3,z4,z5,z6,z7,z8,z9,z10,_⟩:=hx1
 have hu:∀x∈[ρ1.i 10,ρ1.i 11,ρ1.i 12,ρ1.i 13,ρ1.i 14,ρ1.i 15,ρ1.i 16,ρ1.i 17,ρ1.i 18,ρ1.i 19,ρ1.i 20],inK .u64 x=true:=by
  intro x hx
  simp only[List.mem_cons,List.not_mem_nil,or_false] at hx
  rcases hx with rfl | rfl | rfl | rfl | rfl | rfl | rfl | rfl | rfl | rfl | rfl<;>assumption
 clear z0 z1 z2 z3 z4 z5 z6 z7 z8 z9 z10
 have hJ:JAt p cx an fu (ρ1.i 9) ⟨[ρ1.i 10,ρ1.i 11,ρ1.i 12,ρ1.i 13,ρ1.i 14,ρ1.i 15,ρ1.i 16,ρ1.i 17,ρ1.i 18,ρ1.i 19,ρ1.i 20],ρ1.i 21,ρ1.i 86,ρ1.l 87,ρ1.l 88,ρ1.l 89,ρ1.l 90⟩ (frI ρ1 22) (ρ1.l 91) (ρ1.l 92):=hi1
 clear hi1
 obtain⟨left,k1_i9⟩:∃z,ρ1.i 9=z:=⟨_,rfl⟩
 obtain⟨r0,k1_i10⟩:∃z,ρ1.i 10=z:=⟨_,rfl⟩
 obtain⟨r1,k1_i11⟩:∃z,ρ1.i 11=z:=⟨_,rfl⟩
 obtain⟨r2,k1_i12⟩:∃z,ρ1.i 12=z:=⟨_,rfl⟩
 obtain⟨r3,k1_i13⟩:∃z,ρ1.i 13=z:=⟨_,rfl⟩
 obtain⟨r4,k1_i14⟩:∃z,ρ1.i 14=z:=⟨_,rfl⟩
 obtain⟨r5,k1_i15⟩:∃z,ρ1.i 15=z:=⟨_,rfl⟩
 obtain⟨r6,k1_i16⟩:∃z,ρ1.i 16=z:=⟨_,rfl⟩
 obtain⟨r7,k1_i17⟩:∃z,ρ1.i 17=z:=⟨_,rfl⟩
 obtain⟨r8,k1_i18⟩:∃z,ρ1.i 18=z:=⟨_,rfl⟩
 obtain⟨r9,k1_i19⟩:∃z,ρ1.i 19=z:=⟨_,rfl⟩
 obtain⟨r10,k1_i20⟩:∃z,ρ1.i 20=z:=⟨_,rfl⟩
 obtain⟨st,k1_i21⟩:∃z,ρ1.i 21=z:=⟨_,rfl⟩
 obtain⟨pc,k1_i86⟩:∃z,ρ1.i 86=z:=⟨_,rfl⟩
 obtain⟨a1,k1_l87⟩:∃z,ρ1.l 87=z:=⟨_,rfl⟩
 obtain⟨t1,k1_l88⟩:∃z,ρ1.l 88=z:=⟨_,rfl⟩
 obtain⟨c1,k1_l89⟩:∃z,ρ1.l 89=z:=⟨_,rfl⟩
 obtain⟨f1,k1_l90⟩:∃z,ρ1.l 90=z:=⟨_,rfl⟩
 obtain⟨A1,k1_l91⟩:∃z,ρ1.l 91=z:=⟨_,rfl⟩
 obtain⟨L1,k1_l92⟩:∃z,ρ1.l 92=z:=⟨_,rfl⟩
 simp only[k1_i9,k1_i10,k1_i11,k1_i12,k1_i13,k1_i14,k1_i15,k1_i16,k1_i17,k1_i18,k1_i19,k1_i20,k1_i21,k1_i86,k1_l87,k1_l88,k1_l89,k1_l90,k1_l91,k1_l92] at hJ hu
 have hR:=hJ.run
 have k1_l1:=kL ha1 k0_l1
 have k1_l7:=kL ha1 k0_l7
 have h256:c1.length≤256:=by have:=hR.cxl; exact Nat.le_trans (Nat.le_of_eq this) hcx
 have q0:0≤pc:=hR.pc0
 have q1:pc<(p.l.length:Int):=hR.pc1
 have q2:f1.length=64:=hR.fm
 have q4:(t1.length:Int)+left≤fu:=hR.tr
 have q5:=hR.lo
 have q6:=hR.hi
 have q7:=hJ.la
 have q8:=hJ.ll
 simp only[k1_l1,k1_l7,k1_i9,k1_i10,k1_i11,k1_i12,k1_i13,k1_i14,k1_i15,k1_i16,k1_i17,k1_i18,k1_i19,k1_i20,k1_i21,k1_i86,k1_l87,k1_l88,k1_l89,k1_l90,k1_l91,k1_l92,aa,-eq_self]
 refine⟨fun c5=> ?_,fun c5=> ?_⟩
 refine⟨fun c6=> ?_,fun c6=> ?_⟩
 refine⟨fun c7=> ?_,fun c7=> ?_⟩
 refine⟨fun ds=>ds=[.z (opI .sub .i64 left 1)],?_,?_⟩
 ·rfl
 intro ρ2 ha2 _ hi2
 simp only[List.cons.injEq,Dt.z.injEq,Dt.l.injEq,b2i_eq_iff,and_true] at hi2
 have k2_i93:=hi2
 have k2_l1:=kL ha2 k1_l1
 have k2_l7:=kL ha2 k1_l7
 have k2_i9:=kI ha2 k1_i9
 have k2_i10:=kI ha2 k1_i10
 have k2_i11:=kI ha2 k1_i11
 have k2_i12:=kI ha2 k1_i12
 have k2_i13:=kI ha2 k1_i13
 have k2_i14:=kI ha2 k1_i14
 have k2_i15:=kI ha2 k1_i15
 have k2_i16:=kI ha2 k1_i16
 have k2_i17:=kI ha2 k1_i17
 have k2_i18:=kI ha2 k1_i18
 have k2_i19:=kI ha2 k1_i19
 have k2_i20:=kI ha2 k1_i20
 have k2_i21:=kI ha2 k1_i21
 have k2_i86:=kI ha2 k1_i86
 have k2_l87:=kL ha2 k1_l87
 have k2_l88:=kL ha2 k1_l88
 have k2_l89:=kL ha2 k1_l89
 have k2_l90:=kL ha2 k1_l90
 have k2_l91:=kL ha2 k1_l91
 have k2_l92:=kL ha2 k1_l92
 have hSN2:=hJ.snap
 rw[←el (v:=22) ha2 (by decide)] at hSN2
 simp only[k2_l1,k2_l7,k2_i9,k2_i10,k2_i11,k2_i12,k2_i13,k2_i14,k2_i15,k2_i16,k2_i17,k2_i18,k2_i19,k2_i20,k2_i21,k2_i86,k2_l87,k2_l88,k2_l89,k2_l90,k2_l91,k2_l92,k2_i93,aa,-eq_self]
 refine⟨fun c8=> ?_,fun c8=> ?_⟩
 ·exact absurd (of_decide_eq_true c8) (by omega)
 refine⟨fun c9=> ?_,fun c9=> ?_⟩
 refine⟨?_,?_⟩
 ·exact aj hp.1.1 hok q0 q1
 intro e; (try simp only[e,Ins.eta,Prog.eta,aa,Mem.eta,Mach.eta,-eq_self]); clear e
 refine⟨fun c10=> ?_,fun c10=> ?_⟩
 refine⟨fun c11=> ?_,fun c11=> ?_⟩
 refine⟨fun c12=> ?_,fun c12=> ?_⟩
 ·have hmay:=aj hp.1.1 hok q0 q1
  have hd:=aK hmay
  exact absurd (of_decide_eq_true c12) (by omega)
 refine⟨fun c13=> ?_,fun c13=> ?_⟩
 refine⟨?_,?_⟩
 ·exact fun _=>(by have hd:=aZ (aj hp.1.1 hok hR.pc0 hR.pc1); exact⟨hd.2.2.1,hd.2.2.2.1⟩)
 intro e; (try simp only[e,Ins.eta,Prog.eta,aa,Mem.eta,Mach.eta,-eq_self]); clear e
 intro e; (try simp only[e,Ins.eta,Prog.eta,aa,Mem.eta,Mach.eta,-eq_self]); clear e
 ·have hmay:=aj hp.1.1 hok q0 q1
  have hd:=aK hmay
  have hk:(ae p.l pc).k=0:=eqI c11
  have hw:opI .andNot .i64 (ai (ae p.l pc)) st=0:=eqI c10
  exact JAt.go hJ hp.1.1 hok hf.2 (of_decide_eq_true c5) (dD hw (.inl hk)) (go11 (abk hk) hd.1 hd.2.1) rfl rfl (congrArg (fun s=>L1++[s]) hSN2.symm) ((el (v:=22) ha2 (by decide)).trans hJ.fr)
 ·have hmay:=aj hp.1.1 hok q0 q1
  have hd:=aK hmay
  exact absurd (of_decide_eq_false c13) (by omega)
 refine⟨fun c14=> ?_,fun c14=> ?_⟩
 refine⟨fun c15=> ?_,fun c15=> ?_⟩
 ·have hmay:=aj hp.1.1 hok q0 q1
  have hd:=aK hmay
  exact absurd (of_decide_eq_true c15) (by omega)
 refine⟨fun c16=> ?_,fun c16=> ?_⟩
 refine⟨?_,?_⟩
 ·exact⟨rfl,h256,q2,rfl⟩
 intro e; (try simp only[e,Ins.eta,Prog.eta,aa,Mem.eta,Mach.eta,-eq_self]); clear e
 refine⟨fun c17=> ?_,fun c17=> ?_⟩
 refine⟨fun c18=> ?_,fun c18=> ?_⟩
 ·have hmay:=aj hp.1.1 hok q0 q1
  have hd:=aK hmay
  exact absurd (of_decide_eq_true c18) (by omega)
 refine⟨fun c19=> ?_,fun c19=> ?_⟩
 ·have hmay:=aj hp.1.1 hok q0 q1
  have hd:=aK hmay
  have hk:(ae p.l pc).k=1:=eqI c14
  have hw:opI .andNot .i64 (ai (ae p.l pc)) st=0:=eqI c10
  have h16:=eqI c17
  exact JAt.go hJ hp.1.1 hok hf.2 (of_decide_eq_true c5) (pO hw hk h16) (go11 (abj hk) hd.1 hd.2.1) rfl rfl (congrArg (fun s=>L1++[s]) hSN2.symm) ((el (v:=22) ha2 (by decide)).trans hJ.fr)
 ·have hmay:=aj hp.1.1 hok q0 q1
  have hd:=aK hmay
  exact absurd (of_decide_eq_false c19) (by omega)
 refine⟨?_,?_⟩
 ·exact⟨rfl,h256,q2,rfl⟩
 intro e; (try simp only[e,Ins.eta,Prog.eta,aa,Mem.eta,Mach.eta,-eq_self]); clear e
 ·have hk:(ae p.l pc).k=1:=eqI c14
  have hw:opI .andNot .i64 (ai (ae p.l pc)) st=0:=eqI c10
  have hh:=pN (m:=⟨[r0,r1,r2,r3,r4,r5,r6,r7,r8,r9,r10],st,pc,a1,t1,c1,f1⟩) hw hk (neI c17)
  have e:mrun p cx an fu=_:=bQ hop hR hf.2 (of_decide_eq_true c5) hh (by decide)
  have ej:=JAt.end hop hJ (of_decide_eq_true c5) hh (by decide)
  rw[e,ej,hSN2]
  rfl
 ·have hmay:=aj hp.1.1 hok q0 q1
  have hd:=aK hmay
  exact absurd (of_decide_eq_false c16) (by omega)
 refine⟨fun c20=> ?_,fun c20=> ?_⟩
 refine⟨fun c21=> ?_,fun c21=> ?_⟩
 ·have hmay:=aj hp.1.1 hok q0 q1
  have hd:=aK hmay
  exact absurd (of_decide_eq_true c21) (by omega)
 refine⟨fun c22=> ?_,fun c22=> ?_⟩
 refine⟨fun c23=> ?_,fun c23=> ?_⟩
 ·have hmay:=aj hp.1.1 hok q0 q1
  have hd:=aK hmay
  exact absurd (of_decide_eq_true c23) (by omega)
 refine⟨fun c24=> ?_,fun c24=> ?_⟩
 intro e; (try simp only[e,Ins.eta,Prog.eta,aa,Mem.eta,Mach.eta,-eq_self]); clear e
 refine⟨fun c25=> ?_,fun c25=> ?_⟩
 refine⟨?_,?_⟩
 ·exact⟨(by have:=aI (n:=IntKind.i64.wrap (gt p.l pc 3)) c25; omega),by decide⟩
 intro e; (try simp only[e,Ins.eta,Prog.eta,aa,Mem.eta,Mach.eta,-eq_self]); clear e
 refine⟨fun c26=> ?_,fun c26=> ?_⟩
 refine⟨?_,?_⟩
 ·exact⟨rfl,h256,q2,rfl⟩
 intro e; (try simp only[e,Ins.eta,Prog.eta,aa,Mem.eta,Mach.eta,-eq_self]); clear e
 ·exact absurd c26 (by rw[ca (by have:=aI c25; omega)]; decide)
 refine⟨?_,?_⟩
 ·exact⟨(by have:=aI (n:=IntKind.i64.wrap (gt p.l pc 3)) c25; omega),Nat.le_trans h256 (by decide)⟩
 intro e; have k2_i98:=e.1; (try simp only[e,Ins.eta,Prog.eta,aa,Mem.eta,Mach.eta,-eq_self]); clear e
 refine⟨fun c27=> ?_,fun c27=> ?_⟩
 have hmay:=aj hp.1.1 hok q0 q1
 have hd:=aK hmay
 have hk:(ae p.l pc).k=2:=eqI c20
 obtain⟨a,ea⟩:∃a,opI .add .u64 (([r0,r1,r2,r3,r4,r5,r6,r7,r8,r9,r10]:List Int).getD (gt p.l pc 5).toNat 0) (IntKind.u64.wrap (gt p.l pc 7))=a:=⟨_,rfl⟩
 obtain⟨n,en⟩:∃n,IntKind.i64.wrap (gt p.l pc 3)=n:=⟨_,rfl⟩
 obtain⟨v,ev⟩:∃v,([r0,r1,r2,r3,r4,r5,r6,r7,r8,r9,r10]:List Int).getD (gt p.l pc 6).toNat 0=v:=⟨_,rfl⟩
 have hv:0≤v∧v≤18446744073709551615:=ev▸rR hu _
 have hs:aJ n=true:=en▸c25
 have ha:inK .u64 a=true:=ea▸eD _ _
 have hn3:=aI hs
 have h1:1≤n:=by omega
 have h8:n≤8:=by omega
 have hq:∀k,n.toNat=k→k≤8:=fun k hk=>by omega
 simp only[ea,en] at c27 k2_i98
 have fr:inr 2097152 c1 a n=true:=c27
 have W:=Win.of fr ha (by decide) (Nat.le_trans h256 (by decide)) h1 h8
 simp only[ea,en,ev,-eq_self]
 refine⟨fun ds=>∃k:Nat,ds=[.z (k:Int),.z (shk v k),.l (putL c1 (a-2097152).toNat v k),.l f1]∧k≤n.toNat,fun ds=>n.toNat-(dI ds 0).toNat,⟨0,by rw[ab2]; rfl,Nat.zero_le _⟩,?_⟩
 intro ρ3 ha3 _ hi3
 obtain⟨k,hds,hk2⟩:=hi3
 simp only[List.cons.injEq,Dt.z.injEq,Dt.l.injEq,b2i_eq_iff,and_true] at hds
 obtain⟨k3_i100,k3_i101,k3_l102,k3_l103⟩:=hds
 have k3_l1:=kL ha3 k2_l1
 have k3_l7:=kL ha3 k2_l7
 have k3_i9:=kI ha3 k2_i9
 have k3_i10:=kI ha3 k2_i10
 have k3_i11:=kI ha3 k2_i11
 have k3_i12:=kI ha3 k2_i12
 have k3_i13:=kI ha3 k2_i13
 have k3_i14:=kI ha3 k2_i14
 have k3_i15:=kI ha3 k2_i15
 have k3_i16:=kI ha3 k2_i16
 have k3_i17:=kI ha3 k2_i17
 have k3_i18:=kI ha3 k2_i18
 have k3_i19:=kI ha3 k2_i19
 have k3_i20:=kI ha3 k2_i20
 have k3_i21:=kI ha3 k2_i21
 have k3_i86:=kI ha3 k2_i86
 have k3_l87:=kL ha3 k2_l87
 have k3_l88:=kL ha3 k2_l88
 have k3_l89:=kL ha3 k2_l89
 have k3_l90:=kL ha3 k2_l90
 have k3_l91:=kL ha3 k2_l91
 have k3_l92:=kL ha3 k2_l92
 have k3_i93:=kI ha3 k2_i93
 have k3_i98:ρ3.i 98=a-2097152:=(kI ha3 k2_i98).trans (kH fr h1)
 have hSN3:=hSN2
 rw[←el (v:=22) ha3 (by decide)] at hSN3
 simp only[k3_l1,k3_l7,k3_i9,k3_i10,k3_i11,k3_i12,k3_i13,k3_i14,k3_i15,k3_i16,k3_i17,k3_i18,k3_i19,k3_i20,k3_i21,k3_i86,k3_l87,k3_l88,k3_l89,k3_l90,k3_l91,k3_l92,k3_i93,k3_i100,k3_i101,k3_l102,k3_l103,k3_i98,ea,en,ev,-eq_self]
 refine⟨fun c28=> ?_,fun c28=> ?_⟩
 refine⟨fun c29=> ?_,fun c29=> ?_⟩
 ·have hk3:k<n.toNat:=by have:=of_decide_eq_true c28; omega
  have w1:=W.lo; have w2:=W.hi
  rw[(W.byte (Nat.le_trans h256 (by decide)) hk3).1] at c29
  exact absurd (of_decide_eq_true c29) (by omega)
 refine⟨fun c30=> ?_,fun c30=> ?_⟩
 ·have hk3:k<n.toNat:=by have:=of_decide_eq_true c28; omega
  rw[putR W (Nat.le_trans h256 (by decide)) hv.1 hv.2 hk3,ab1 hv.1 hv.2,addO hk3 (Nat.le_trans (by omega:n.toNat≤8) (by decide))]
  exact⟨⟨k+1,rfl,hk3⟩,by show n.toNat-(((k+1:Nat):Int)).toNat<n.toNat-((k:Int)).toNat; omega⟩
 ·have hk3:k<n.toNat:=by have:=of_decide_eq_true c28; omega
  have w1:=W.lo; have w2:=W.hi
  rw[(W.byte (Nat.le_trans h256 (by decide)) hk3).1,au] at c30
  exact absurd (of_decide_eq_false c30) (by omega)
 refine⟨?_,?_⟩
 ·exact⟨rfl,by rw[au]; exact h256,q2,rfl⟩
 intro e; (try simp only[e,Ins.eta,Prog.eta,aa,Mem.eta,Mach.eta,-eq_self]); clear e
 ·have hk:(ae p.l pc).k=2:=eqI c20
  have hw:opI .andNot .i64 (ai (ae p.l pc)) st=0:=eqI c10
  obtain rfl:k=n.toNat:=by have:=of_decide_eq_false c28; omega
  have g2:inr 3145728 f1 a n=false:=by
   have:=W.hi; have:=W.lo; unfold inr; rw[decide_eq_false (by omega)]; rfl
  have eC:stC ⟨[r0,r1,r2,r3,r4,r5,r6,r7,r8,r9,r10],st,pc,a1,t1,c1,f1⟩ a n v=putL c1 (a-2097152).toNat v n.toNat:=if_pos fr
  have eF:stF ⟨[r0,r1,r2,r3,r4,r5,r6,r7,r8,r9,r10],st,pc,a1,t1,c1,f1⟩ a n v=f1:=if_neg (by rw[g2]; decide)
  have eO:stOk ⟨[r0,r1,r2,r3,r4,r5,r6,r7,r8,r9,r10],st,pc,a1,t1,c1,f1⟩ a n=true:=by unfold stOk; rw[show inr 2097152 c1 a n=true from fr]; rfl
  exact JAt.go hJ hp.1.1 hok hf.2 (of_decide_eq_true c5) (hZ hw hk ea en eO) (by rw[sX (m:=⟨[r0,r1,r2,r3,r4,r5,r6,r7,r8,r9,r10],st,pc,a1,t1,c1,f1⟩) hk ea en ev,eC,eF]; rfl) rfl rfl (congrArg (fun s=>L1++[s]) hSN3.symm) (rV q2)
 refine⟨?_,?_⟩
 ·exact⟨(by have:=aI (n:=IntKind.i64.wrap (gt p.l pc 3)) c25; omega),by rw[q2]; decide⟩
 intro e; have k2_i100:=e.1; (try simp only[e,Ins.eta,Prog.eta,aa,Mem.eta,Mach.eta,-eq_self]); clear e
 refine⟨fun c31=> ?_,fun c31=> ?_⟩
 have hmay:=aj hp.1.1 hok q0 q1
 have hd:=aK hmay
 have hk:(ae p.l pc).k=2:=eqI c20
 obtain⟨a,ea⟩:∃a,opI .add .u64 (([r0,r1,r2,r3,r4,r5,r6,r7,r8,r9,r10]:List Int).getD (gt p.l pc 5).toNat 0) (IntKind.u64.wrap (gt p.l pc 7))=a:=⟨_,rfl⟩
 obtain⟨n,en⟩:∃n,IntKind.i64.wrap (gt p.l pc 3)=n:=⟨_,rfl⟩
 obtain⟨v,ev⟩:∃v,([r0,r1,r2,r3,r4,r5,r6,r7,r8,r9,r10]:List Int).getD (gt p.l pc 6).toNat 0=v:=⟨_,rfl⟩
 have hv:0≤v∧v≤18446744073709551615:=ev▸rR hu _
 have hs:aJ n=true:=en▸c25
 have ha:inK .u64 a=true:=ea▸eD _ _
 have hn3:=aI hs
 have h1:1≤n:=by omega
 have h8:n≤8:=by omega
 have hq:∀k,n.toNat=k→k≤8:=fun k hk=>by omega
 simp only[ea,en] at c27 c31 k2_i100
 have fr:inr 3145728 f1 a n=true:=c31
 have W:=Win.of fr ha (by decide) (by rw[q2]; decide) h1 h8
 simp only[ea,en,ev,-eq_self]
 refine⟨fun ds=>∃k:Nat,ds=[.z (k:Int),.z (shk v k),.l c1,.l (putL f1 (a-3145728).toNat v k)]∧k≤n.toNat,fun ds=>n.toNat-(dI ds 0).toNat,⟨0,by rw[ab2]; rfl,Nat.zero_le _⟩,?_⟩
 intro ρ3 ha3 _ hi3
 obtain⟨k,hds,hk2⟩:=hi3
 simp only[List.cons.injEq,Dt.z.injEq,Dt.l.injEq,b2i_eq_iff,and_true] at hds
 obtain⟨k3_i102,k3_i103,k3_l104,k3_l105⟩:=hds
 have k3_l1:=kL ha3 k2_l1
 have k3_l7:=kL ha3 k2_l7
 have k3_i9:=kI ha3 k2_i9
 have k3_i10:=kI ha3 k2_i10
 have k3_i11:=kI ha3 k2_i11
 have k3_i12:=kI ha3 k2_i12
 have k3_i13:=kI ha3 k2_i13
 have k3_i14:=kI ha3 k2_i14
 have k3_i15:=kI ha3 k2_i15
 have k3_i16:=kI ha3 k2_i16
 have k3_i17:=kI ha3 k2_i17
 have k3_i18:=kI ha3 k2_i18
 have k3_i19:=kI ha3 k2_i19
 have k3_i20:=kI ha3 k2_i20
 have k3_i21:=kI ha3 k2_i21
 have k3_i86:=kI ha3 k2_i86
 have k3_l87:=kL ha3 k2_l87
 have k3_l88:=kL ha3 k2_l88
 have k3_l89:=kL ha3 k2_l89
 have k3_l90:=kL ha3 k2_l90
 have k3_l91:=kL ha3 k2_l91
 have k3_l92:=kL ha3 k2_l92
 have k3_i93:=kI ha3 k2_i93
 have k3_i100:ρ3.i 100=a-3145728:=(kI ha3 k2_i100).trans (kH fr h1)
 have hSN3:=hSN2
 rw[←el (v:=22) ha3 (by decide)] at hSN3
 simp only[k3_l1,k3_l7,k3_i9,k3_i10,k3_i11,k3_i12,k3_i13,k3_i14,k3_i15,k3_i16,k3_i17,k3_i18,k3_i19,k3_i20,k3_i21,k3_i86,k3_l87,k3_l88,k3_l89,k3_l90,k3_l91,k3_l92,k3_i93,k3_i102,k3_i103,k3_l104,k3_l105,k3_i100,ea,en,ev,-eq_self]
 refine⟨fun c32=> ?_,fun c32=> ?_⟩
 refine⟨fun c33=> ?_,fun c33=> ?_⟩
 ·have hk3:k<n.toNat:=by have:=of_decide_eq_true c32; omega
  have w1:=W.lo; have w2:=W.hi
  rw[(W.byte (by rw[q2]; decide) hk3).1] at c33
  exact absurd (of_decide_eq_true c33) (by omega)
 refine⟨fun c34=> ?_,fun c34=> ?_⟩
 ·have hk3:k<n.toNat:=by have:=of_decide_eq_true c32; omega
  rw[putR W (by rw[q2]; decide) hv.1 hv.2 hk3,ab1 hv.1 hv.2,addO hk3 (Nat.le_trans (by omega:n.toNat≤8) (by decide))]
  exact⟨⟨k+1,rfl,hk3⟩,by show n.toNat-(((k+1:Nat):Int)).toNat<n.toNat-((k:Int)).toNat; omega⟩
 ·have hk3:k<n.toNat:=by have:=of_decide_eq_true c32; omega
  have w1:=W.lo; have w2:=W.hi
  rw[(W.byte (by rw[q2]; decide) hk3).1,au] at c34
  exact absurd (of_decide_eq_false c34) (by omega)
 refine⟨?_,?_⟩
 ·exact⟨rfl,h256,by rw[au]; exact q2,rfl⟩
 intro e; (try simp only[e,Ins.eta,Prog.eta,aa,Mem.eta,Mach.eta,-eq_self]); clear e
 ·have hk:(ae p.l pc).k=2:=eqI c20
  have hw:opI .andNot .i64 (ai (ae p.l pc)) st=0:=eqI c10
  obtain rfl:k=n.toNat:=by have:=of_decide_eq_false c32; omega
  have g1:inr 2097152 c1 a n=false:=c27
  have eC:stC ⟨[r0,r1,r2,r3,r4,r5,r6,r7,r8,r9,r10],st,pc,a1,t1,c1,f1⟩ a n v=c1:=if_neg (by rw[g1]; decide)
  have eF:stF ⟨[r0,r1,r2,r3,r4,r5,r6,r7,r8,r9,r10],st,pc,a1,t1,c1,f1⟩ a n v=putL f1 (a-3145728).toNat v n.toNat:=if_pos fr
  have eO:stOk ⟨[r0,r1,r2,r3,r4,r5,r6,r7,r8,r9,r10],st,pc,a1,t1,c1,f1⟩ a n=true:=by unfold stOk; rw[show inr 3145728 f1 a n=true from fr,Bool.or_true]
  exact JAt.go hJ hp.1.1 hok hf.2 (of_decide_eq_true c5) (hZ hw hk ea en eO) (by rw[sX (m:=⟨[r0,r1,r2,r3,r4,r5,r6,r7,r8,r9,r10],st,pc,a1,t1,c1,f1⟩) hk ea en ev,eC,eF]; rfl) rfl rfl (congrArg (fun s=>L1++[s]) hSN3.symm) (rV (by rw[au]; exact q2))
 refine⟨?_,?_⟩
 ·exact⟨(by have:=aI (n:=IntKind.i64.wrap (gt p.l pc 3)) c25; omega),by decide⟩
 intro e; (try simp only[e,Ins.eta,Prog.eta,aa,Mem.eta,Mach.eta,-eq_self]); clear e
 refine⟨fun c35=> ?_,fun c35=> ?_⟩
 refine⟨fun _=>False,fun _=>0,absurd c35 (by rw[ca (by have:=aI c25; omega)]; decide),?_⟩
 intro ρ3 ha3 _ hif
 refine⟨fun c36=> ?_,fun c36=> ?_⟩
 ·exact hif.elim
 refine⟨?_,?_⟩
 ·exact hif.elim
 intro e; (try simp only[e,Ins.eta,Prog.eta,aa,Mem.eta,Mach.eta,-eq_self]); clear e
 ·exact hif.elim
 refine⟨?_,?_⟩
 ·exact⟨rfl,h256,q2,rfl⟩
 intro e; (try simp only[e,Ins.eta,Prog.eta,aa,Mem.eta,Mach.eta,-eq_self]); clear e
 ·have hk:(ae p.l pc).k=2:=eqI c20
  have hw:opI .andNot .i64 (ai (ae p.l pc)) st=0:=eqI c10
  have eO:stOk (⟨[r0,r1,r2,r3,r4,r5,r6,r7,r8,r9,r10],st,pc,a1,t1,c1,f1⟩:Ms) (adr ((⟨[r0,r1,r2,r3,r4,r5,r6,r7,r8,r9,r10],st,pc,a1,t1,c1,f1⟩:Ms).r (ae p.l pc).d) (ae p.l pc).off) (IntKind.i64.wrap (ae p.l pc).sz)=false:=by unfold stOk; rw[show inr 2097152 c1 (adr ((⟨[r0,r1,r2,r3,r4,r5,r6,r7,r8,r9,r10],st,pc,a1,t1,c1,f1⟩:Ms).r (ae p.l pc).d) (ae p.l pc).off) (IntKind.i64.wrap (ae p.l pc).sz)=false from c27,show inr 3145728 f1 (adr ((⟨[r0,r1,r2,r3,r4,r5,r6,r7,r8,r9,r10],st,pc,a1,t1,c1,f1⟩:Ms).r (ae p.l pc).d) (ae p.l pc).off) (IntKind.i64.wrap (ae p.l pc).sz)=false from c31]; rfl
  have hh:=pM (m:=⟨[r0,r1,r2,r3,r4,r5,r6,r7,r8,r9,r10],st,pc,a1,t1,c1,f1⟩) hw hk rfl rfl eO
  have e:mrun p cx an fu=_:=bQ hop hR hf.2 (of_decide_eq_true c5) hh (by decide)
  have ej:=JAt.end hop hJ (of_decide_eq_true c5) hh (by decide)
  rw[e,ej,hSN2]
  rfl
 refine⟨?_,?_⟩
 ·exact⟨rfl,h256,q2,rfl⟩
 intro e; (try simp only[e,Ins.eta,Prog.eta,aa,Mem.eta,Mach.eta,-eq_self]); clear e
 ·have hmay:=aj hp.1.1 hok q0 q1
  have hd:=aK hmay
  have hk:(ae p.l pc).k=2:=eqI c20
  have hw:opI .andNot .i64 (ai (ae p.l pc)) st=0:=eqI c10
  exact absurd (gG hmay (.inr hk)) (by rw[show aJ (IntKind.i64.wrap (ae p.l pc).sz)=false from c25]; decide)
 ·have hmay:=aj hp.1.1 hok q0 q1
  have hd:=aK hmay
  exact absurd (of_decide_eq_false c24) (by omega)
 ·have hmay:=aj hp.1.1 hok q0 q1
  have hd:=aK hmay
  exact absurd (of_decide_eq_false c22) (by omega)
 refine⟨fun c37=> ?_,fun c37=> ?_⟩
 refine⟨fun c38=> ?_,fun c38=> ?_⟩
 ·have hmay:=aj hp.1.1 hok q0 q1
  have hd:=aK hmay
  exact absurd (of_decide_eq_true c38) (by omega)
 refine⟨fun c39=> ?_,fun c39=> ?_⟩
 refine⟨?_,?_⟩
 ·exact fun _=>(by have hd:=aZ (aj hp.1.1 hok hR.pc0 hR.pc1); exact⟨hd.2.2.1,hd.2.2.2.1⟩)
 intro e; (try simp only[e,Ins.eta,Prog.eta,aa,Mem.eta,Mach.eta,-eq_self]); clear e
 intro e; (try simp only[e,Ins.eta,Prog.eta,aa,Mem.eta,Mach.eta,-eq_self]); clear e
 refine⟨fun c40=> ?_,fun c40=> ?_⟩
 intro e; (try simp only[e,Ins.eta,Prog.eta,aa,Mem.eta,Mach.eta,-eq_self]); clear e
 ·have hk:(ae p.l pc).k=3:=eqI c37
  have hw:opI .andNot .i64 (ai (ae p.l pc)) st=0:=eqI c10
  exact JAt.go hJ hp.1.1 hok hf.2 (of_decide_eq_true c5) (dD hw (.inr (.inl hk))) ((wv (m:=⟨[r0,r1,r2,r3,r4,r5,r6,r7,r8,r9,r10],st,pc,a1,t1,c1,f1⟩) hk c40).symm) rfl rfl (congrArg (fun s=>L1++[s]) hSN2.symm) ((el (v:=22) ha2 (by decide)).trans hJ.fr)
 ·have hk:(ae p.l pc).k=3:=eqI c37
  have hw:opI .andNot .i64 (ai (ae p.l pc)) st=0:=eqI c10
  exact JAt.go hJ hp.1.1 hok hf.2 (of_decide_eq_true c5) (dD hw (.inr (.inl hk))) ((ww (m:=⟨[r0,r1,r2,r3,r4,r5,r6,r7,r8,r9,r10],st,pc,a1,t1,c1,f1⟩) hk c40).symm) rfl rfl (congrArg (fun s=>L1++[s]) hSN2.symm) ((el (v:=22) ha2 (by decide)).trans hJ.fr)
 ·have hmay:=aj hp.1.1 hok q0 q1
  have hd:=aK hmay
  exact absurd (of_decide_eq_false c39) (by omega)
 refine⟨fun c41=> ?_,fun c41=> ?_⟩
 intro e; (try simp only[e,Ins.eta,Prog.eta,aa,Mem.eta,Mach.eta,-eq_self]); clear e
 ·have hk:(ae p.l pc).k=4:=eqI c41
  have hw:opI .andNot .i64 (ai (ae p.l pc)) st=0:=eqI c10
  exact JAt.go hJ hp.1.1 hok hf.2 (of_decide_eq_true c5) (dD hw (.inr (.inr hk))) ((abi (m:=⟨[r0,r1,r2,r3,r4,r5,r6,r7,r8,r9,r10],st,pc,a1,t1,c1,f1⟩) hk).symm) rfl rfl (congrArg (fun s=>L1++[s]) hSN2.symm) ((el (v:=22) ha2 (by decide)).trans hJ.fr)
 refine⟨fun c42=> ?_,fun c42=> ?_⟩
 refine⟨fun c43=> ?_,fun c43=> ?_⟩
 refine⟨?_,?_⟩
 ·exact⟨rfl,h256,q2,rfl⟩
 intro e; (try simp only[e,Ins.eta,Prog.eta,aa,Mem.eta,Mach.eta,-eq_self]); clear e
 ·have hk:(ae p.l pc).k=5:=eqI c42
  have hw:opI .andNot .i64 (ai (ae p.l pc)) st=0:=eqI c10
  have hh:=pP (m:=⟨[r0,r1,r2,r3,r4,r5,r6,r7,r8,r9,r10],st,pc,a1,t1,c1,f1⟩) hw hk (show a1.length=0 by have:=eqI c43; omega)
  have e:mrun p cx an fu=_:=bQ hop hR hf.2 (of_decide_eq_true c5) hh (by decide)
  have ej:=JAt.end hop hJ (of_decide_eq_true c5) hh (by decide)
  rw[e,ej,hSN2]
  rfl
 refine⟨fun c44=> ?_,fun c44=> ?_⟩
 refine⟨fun c45=> ?_,fun c45=> ?_⟩
 ·exact absurd (of_decide_eq_true c45) (by have:=neI c43; omega)
 have hmay:=aj hp.1.1 hok q0 q1
 have hd:=aK hmay
 have hk:(ae p.l pc).k=5:=eqI c42
 have hw:opI .andNot .i64 (ai (ae p.l pc)) st=0:=eqI c10
 refine⟨fun ds=>∃k:Nat,ds=[.z ((k:Int)+1),.l (argR [r0,r1,r2,r3,r4,r5,r6,r7,r8,r9,r10] (k:Int))]∧(k:Int)≤bo (gt p.l pc 8),fun ds=>7-(dI ds 0).toNat,⟨0,by rw[acN]; rfl,(aE _).1⟩,?_⟩
 intro ρ3 ha3 _ hi3
 obtain⟨k,hds,hk2⟩:=hi3
 simp only[List.cons.injEq,Dt.z.injEq,Dt.l.injEq,b2i_eq_iff,and_true] at hds
 obtain⟨k3_i95,k3_l96⟩:=hds
 have k3_l1:=kL ha3 k2_l1
 have k3_l7:=kL ha3 k2_l7
 have k3_i9:=kI ha3 k2_i9
 have k3_i10:=kI ha3 k2_i10
 have k3_i11:=kI ha3 k2_i11
 have k3_i12:=kI ha3 k2_i12
 have k3_i13:=kI ha3 k2_i13
 have k3_i14:=kI ha3 k2_i14
 have k3_i15:=kI ha3 k2_i15
 have k3_i16:=kI ha3 k2_i16
 have k3_i17:=kI ha3 k2_i17
 have k3_i18:=kI ha3 k2_i18
 have k3_i19:=kI ha3 k2_i19
 have k3_i20:=kI ha3 k2_i20
 have k3_i21:=kI ha3 k2_i21
 have k3_i86:=kI ha3 k2_i86
 have k3_l87:=kL ha3 k2_l87
 have k3_l88:=kL ha3 k2_l88
 have k3_l89:=kL ha3 k2_l89
 have k3_l90:=kL ha3 k2_l90
 have k3_l91:=kL ha3 k2_l91
 have k3_l92:=kL ha3 k2_l92
 have k3_i93:=kI ha3 k2_i93
 have hSN3:=hSN2
 rw[←el (v:=22) ha3 (by decide)] at hSN3
 have hb5:=(aE (gt p.l pc 8)).2
 have hA5:=zj (rg:=[r0,r1,r2,r3,r4,r5,r6,r7,r8,r9,r10]) (k:=k) (by omega)
 simp only[k3_l1,k3_l7,k3_i9,k3_i10,k3_i11,k3_i12,k3_i13,k3_i14,k3_i15,k3_i16,k3_i17,k3_i18,k3_i19,k3_i20,k3_i21,k3_i86,k3_l87,k3_l88,k3_l89,k3_l90,k3_l91,k3_l92,k3_i93,k3_i95,k3_l96,-eq_self]
 intro e; (try simp only[e,Ins.eta,Prog.eta,aa,Mem.eta,Mach.eta,-eq_self]); clear e
 refine⟨fun c46=> ?_,fun c46=> ?_⟩
 refine⟨fun c47=> ?_,fun c47=> ?_⟩
 ·exact absurd (of_decide_eq_true c47) (by have q:=of_decide_eq_true c46; omega)
 refine⟨fun c48=> ?_,fun c48=> ?_⟩
 ·have hk9:(k:Int)=bo (ae p.l pc).imm:=by have:=of_decide_eq_true c46; show(k:Int)=bo (gt p.l pc 8); omega
  exact JAt.go hJ hp.1.1 hok hf.2 (of_decide_eq_true c5) (pQ hw hk (show a1.length≠0 by have:=neI c43; omega)) (act (m:=⟨[r0,r1,r2,r3,r4,r5,r6,r7,r8,r9,r10],st,pc,a1,t1,c1,f1⟩) hk hk9 rfl) rfl rfl (congrArg (fun s=>L1++[s]) hSN3.symm) ((el (v:=22) ha3 (by decide)).trans ((el (v:=22) ha2 (by decide)).trans hJ.fr))
 ·exact absurd (of_decide_eq_false c48) (by have:=of_decide_eq_true c5; omega)
 refine⟨fun c49=> ?_,fun c49=> ?_⟩
 ·exact absurd (of_decide_eq_true c49) (by have q:=of_decide_eq_false c46; omega)
 refine⟨fun c50=> ?_,fun c50=> ?_⟩
 refine⟨fun c51=> ?_,fun c51=> ?_⟩
 ·have q:=of_decide_eq_false c46
  have hk4:k=0∨k=1∨k=2∨k=3∨k=4:=by omega
  refine⟨⟨k+1,?_,by omega⟩,?_⟩
  ·rcases hk4 with rfl | rfl | rfl | rfl | rfl<;>rfl
  ·show 7-(opI .add .i64 ((k:Int)+1) 1).toNat<7-((k:Int)+1).toNat
   rcases hk4 with rfl | rfl | rfl | rfl | rfl<;>decide
 ·exact absurd (of_decide_eq_false c51) (by have q:=of_decide_eq_false c46; omega)
 ·exact absurd (of_decide_eq_false c50) (by have q:=of_decide_eq_false c46; omega)
 ·exact absurd (of_decide_eq_false c44) (by have:=neI c43; omega)
 refine⟨fun c52=> ?_,fun c52=> ?_⟩
 refine⟨?_,?_⟩
 ·exact⟨rfl,h256,q2,rfl⟩
 intro e; (try simp only[e,Ins.eta,Prog.eta,aa,Mem.eta,Mach.eta,-eq_self]); clear e
 ·have hk:(ae p.l pc).k=6:=eqI c52
  have hw:opI .andNot .i64 (ai (ae p.l pc)) st=0:=eqI c10
  have hh:=wS (m:=⟨[r0,r1,r2,r3,r4,r5,r6,r7,r8,r9,r10],st,pc,a1,t1,c1,f1⟩) hw hk
  have e:mrun p cx an fu=_:=bQ hop hR hf.2 (of_decide_eq_true c5) hh (by decide)
  have ej:=JAt.end hop hJ (of_decide_eq_true c5) hh (by decide)
  rw[e,ej,hSN2]
  rfl
 ·have hmay:=aj hp.1.1 hok q0 q1
  have hd:=aK hmay
  have n0:=neI c11; have n1:=neI c14; have n2:=neI c20; have n3:=neI c37; have n4:=neI c41; have n5:=neI c42; have n6:=neI c52; exact absurd hd.2.2.2.2.2.2.2 (by omega)
 refine⟨?_,?_⟩
 ·exact⟨rfl,h256,q2,rfl⟩
 intro e; (try simp only[e,Ins.eta,Prog.eta,aa,Mem.eta,Mach.eta,-eq_self]); clear e
 ·have hh:=wT (m:=⟨[r0,r1,r2,r3,r4,r5,r6,r7,r8,r9,r10],st,pc,a1,t1,c1,f1⟩) (neI c10)
  have e:mrun p cx an fu=_:=bQ hop hR hf.2 (of_decide_eq_true c5) hh (by decide)
  have ej:=JAt.end hop hJ (of_decide_eq_true c5) hh (by decide)
  rw[e,ej,hSN2]
  rfl
 ·exact absurd q1 (of_decide_eq_false c9)
 ·exact absurd (show(L1.length:Int)<1073741824 by omega) (of_decide_eq_false c7)
 ·exact absurd (show(A1.length:Int)<1073741824 by omega) (of_decide_eq_false c6)
 refine⟨?_,?_⟩
 ·exact⟨rfl,h256,q2,rfl⟩
 intro e; (try simp only[e,Ins.eta,Prog.eta,aa,Mem.eta,Mach.eta,-eq_self]); clear e
 ·have e:mrun p cx an fu=_:=rC hop hR (of_decide_eq_false c5)
  have ej:=JAt.out hop hJ (of_decide_eq_false c5)
  rw[e,ej]
 ·have e:mrun p cx an fu=_:=ef (dr (eqI c0) (.inl (neI c1))) (by decide)
  have ej:bJ p cx an fu=_:=cy (dr (eqI c0) (.inl (neI c1))) (by decide)
  rw[e,ej]
 ·have e:mrun p cx an fu=_:=ef (mo (neI c0)) (neI c0)
  have ej:bJ p cx an fu=_:=cy (mo (neI c0)) (neI c0)
  rw[e,ej]
theorem vK {sp:Spec} {key:Nat} (hF:sp.F key=dP) (hP:sp.pre key=cT):SmOk Try.prog sp (jy key):=
 aS (s:=jy key) hF hP (by kernel_rfl) tT (smc (vO rfl rfl) (smc (vL rfl rfl) (smc (aaP rfl rfl) (smc (yq rfl) (smc (aaN rfl) (smc (vJ rfl) (smc (qP rfl) (smc (vM rfl rfl) (smc (zx rfl) (smc (qN rfl rfl) (smc (qO rfl rfl) (smc (vN rfl rfl) (smc (aaR rfl rfl) sm0))))))))))))) Try.func16 (fnc Try.func30 (fnc Try.func45 (fnc Try.func50 (fnc Try.func29 (fnc Try.func41 (fnc Try.func47 (fnc Try.func70 fn0))))))) vm (.inr (.inl ⟨(fun xs h L hL=>by unfold cT at h; split at h<;>first | exact h.elim | (simp at hL; rcases hL with rfl | rfl | rfl; exact h.1.1; exact h.1.2; exact h.2)),rfl⟩)) (fun x0 gx0 x1 gx1 x2 gx2 x3 gx3 x4 gx4 hp ρ g=>uY ⟨x0,x1⟩ ⟨gx0,gx1⟩ x2 gx2 x3 gx3 x4 gx4 hp ρ g)
end Go.Proofs.Ytghiofgomcihcaa
