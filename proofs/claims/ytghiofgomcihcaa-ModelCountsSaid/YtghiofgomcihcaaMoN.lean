import Derived.Test.YtghiofgomcihcaaMoF
import Derived.Test.YtghiofgomcihcaaMoX
import Derived.Test.YtghiofgomcihcaaLiL
import Derived.Test.YtghiofgomcihcaaLiQ
import Derived.Test.YtghiofgomcihcaaProg
import Derived.Laws.Externs
set_option linter.unusedVariables false
set_option linter.unusedSimpArgs false
namespace Go.Proofs.Ytghiofgomcihcaa
open Go.RowKit Go.ChangeShapes Go.WideShapes
theorem rwU8:Rw Try.prog 5 [some .u8]:=Rw.int .u8 Try.underlying5 (by kernel_rfl)
theorem aba:Rw Try.prog 30 [some .u64]:=Rw.int .u64 Try.underlying30 (by kernel_rfl)
def tys_MoN:List (Nat×TI):=[(3,⟨false,1,[.int .i64 (.lit 0)],[],none,some .i64,false,false,none,8,false,none,false,0⟩),
 (4,⟨false,1,[.bool (.tt false)],[],none,none,false,true,none,1,false,none,false,0⟩),
 (5,⟨false,1,[.int .u8 (.lit 0)],[],none,some .u8,false,false,none,1,false,none,false,0⟩),
 (22,⟨false,1,[.nsl],[],none,none,false,false,some 44,24,false,none,false,0⟩),
 (24,⟨true,2,[.int .i64 (.lit 0),.nsl],[(0,3),(1,22)],none,none,false,false,none,32,false,none,false,0⟩),
 (25,⟨false,1,[.nsl],[],none,none,false,false,some 5,24,false,none,false,0⟩),
 (26,⟨false,1,[.nsl],[],none,none,false,false,some 30,24,false,none,false,0⟩),
 (29,⟨false,1,[.int .i8 (.lit 0)],[],none,some .i8,false,false,none,1,false,none,false,0⟩),
 (30,⟨false,1,[.int .u64 (.lit 0)],[],none,some .u64,false,false,none,8,false,none,false,0⟩),
 (31,⟨false,1,[.nsl],[],none,none,false,false,some 39,24,false,none,false,0⟩),
 (33,⟨true,5,[.int .i8 (.lit 0),.int .u64 (.lit 0),.nsl,.nsl,.int .i64 (.lit 0)],[(0,29),(1,30),(2,25),(3,31),(4,3)],none,none,false,false,none,72,false,none,false,0⟩),
 (34,⟨false,1,[.int .i64 (.lit 0)],[],none,some .i64,false,false,none,8,false,none,false,0⟩),
 (39,⟨true,3,[.int .i64 (.lit 0),.nsl,.int .u64 (.lit 0)],[(0,3),(1,26),(2,30)],none,none,false,false,none,40,false,none,false,0⟩),
 (44,⟨true,9,[.int .i8 (.lit 0),.int .i8 (.lit 0),.int .i8 (.lit 0),.int .i8 (.lit 0),.bool (.tt false),.int .i8 (.lit 0),.int .i8 (.lit 0),.int .i64 (.lit 0),.int .i64 (.lit 0)],[(0,29),(1,29),(2,29),(3,29),(4,4),(5,29),(6,29),(7,3),(8,3)],none,none,true,false,none,24,false,none,false,0⟩),
 (46,⟨false,1,[.nsl],[],none,none,false,false,some 3,24,false,none,false,0⟩),
 (51,⟨false,1,[.nilf],[],none,none,false,false,none,8,true,none,false,0⟩),
 (53,⟨true,11,[.int .u64 (.lit 0),.int .u64 (.lit 0),.int .u64 (.lit 0),.int .u64 (.lit 0),.int .u64 (.lit 0),.int .u64 (.lit 0),.int .u64 (.lit 0),.int .u64 (.lit 0),.int .u64 (.lit 0),.int .u64 (.lit 0),.int .u64 (.lit 0)],[],some (11,30),none,false,false,none,88,false,none,false,0⟩),
 (54,⟨true,64,[.int .u8 (.lit 0),.int .u8 (.lit 0),.int .u8 (.lit 0),.int .u8 (.lit 0),.int .u8 (.lit 0),.int .u8 (.lit 0),.int .u8 (.lit 0),.int .u8 (.lit 0),.int .u8 (.lit 0),.int .u8 (.lit 0),.int .u8 (.lit 0),.int .u8 (.lit 0),.int .u8 (.lit 0),.int .u8 (.lit 0),.int .u8 (.lit 0),.int .u8 (.lit 0),.int .u8 (.lit 0),.int .u8 (.lit 0),.int .u8 (.lit 0),.int .u8 (.lit 0),.int .u8 (.lit 0),.int .u8 (.lit 0),.int .u8 (.lit 0),.int .u8 (.lit 0),.int .u8 (.lit 0),.int .u8 (.lit 0),.int .u8 (.lit 0),.int .u8 (.lit 0),.int .u8 (.lit 0),.int .u8 (.lit 0),.int .u8 (.lit 0),.int .u8 (.lit 0),.int .u8 (.lit 0),.int .u8 (.lit 0),.int .u8 (.lit 0),.int .u8 (.lit 0),.int .u8 (.lit 0),.int .u8 (.lit 0),.int .u8 (.lit 0),.int .u8 (.lit 0),.int .u8 (.lit 0),.int .u8 (.lit 0),.int .u8 (.lit 0),.int .u8 (.lit 0),.int .u8 (.lit 0),.int .u8 (.lit 0),.int .u8 (.lit 0),.int .u8 (.lit 0),.int .u8 (.lit 0),.int .u8 (.lit 0),.int .u8 (.lit 0),.int .u8 (.lit 0),.int .u8 (.lit 0),.int .u8 (.lit 0),.int .u8 (.lit 0),.int .u8 (.lit 0),.int .u8 (.lit 0),.int .u8 (.lit 0),.int .u8 (.lit 0),.int .u8 (.lit 0),.int .u8 (.lit 0),.int .u8 (.lit 0),.int .u8 (.lit 0),.int .u8 (.lit 0)],[],some (64,5),none,false,false,none,64,false,none,false,0⟩),
 (56,⟨true,76,[.int .u64 (.lit 0),.int .u64 (.lit 0),.int .u64 (.lit 0),.int .u64 (.lit 0),.int .u64 (.lit 0),.int .u64 (.lit 0),.int .u64 (.lit 0),.int .u64 (.lit 0),.int .u64 (.lit 0),.int .u64 (.lit 0),.int .u64 (.lit 0),.int .i64 (.lit 0),.int .u8 (.lit 0),.int .u8 (.lit 0),.int .u8 (.lit 0),.int .u8 (.lit 0),.int .u8 (.lit 0),.int .u8 (.lit 0),.int .u8 (.lit 0),.int .u8 (.lit 0),.int .u8 (.lit 0),.int .u8 (.lit 0),.int .u8 (.lit 0),.int .u8 (.lit 0),.int .u8 (.lit 0),.int .u8 (.lit 0),.int .u8 (.lit 0),.int .u8 (.lit 0),.int .u8 (.lit 0),.int .u8 (.lit 0),.int .u8 (.lit 0),.int .u8 (.lit 0),.int .u8 (.lit 0),.int .u8 (.lit 0),.int .u8 (.lit 0),.int .u8 (.lit 0),.int .u8 (.lit 0),.int .u8 (.lit 0),.int .u8 (.lit 0),.int .u8 (.lit 0),.int .u8 (.lit 0),.int .u8 (.lit 0),.int .u8 (.lit 0),.int .u8 (.lit 0),.int .u8 (.lit 0),.int .u8 (.lit 0),.int .u8 (.lit 0),.int .u8 (.lit 0),.int .u8 (.lit 0),.int .u8 (.lit 0),.int .u8 (.lit 0),.int .u8 (.lit 0),.int .u8 (.lit 0),.int .u8 (.lit 0),.int .u8 (.lit 0),.int .u8 (.lit 0),.int .u8 (.lit 0),.int .u8 (.lit 0),.int .u8 (.lit 0),.int .u8 (.lit 0),.int .u8 (.lit 0),.int .u8 (.lit 0),.int .u8 (.lit 0),.int .u8 (.lit 0),.int .u8 (.lit 0),.int .u8 (.lit 0),.int .u8 (.lit 0),.int .u8 (.lit 0),.int .u8 (.lit 0),.int .u8 (.lit 0),.int .u8 (.lit 0),.int .u8 (.lit 0),.int .u8 (.lit 0),.int .u8 (.lit 0),.int .u8 (.lit 0),.int .u8 (.lit 0)],[(0,53),(11,3),(12,54)],none,none,false,false,none,160,false,none,false,0⟩),
 (62,⟨false,1,[.nilp],[],none,none,false,false,none,8,false,none,false,1⟩),
 (66,⟨false,1,[.nilp],[],none,none,false,false,none,8,false,none,false,1⟩),
 (67,⟨false,1,[.nilp],[],none,none,false,false,none,8,false,none,false,1⟩),
 (69,⟨true,84,[.int .i64 (.lit 0),.nsl,.nilp,.int .u64 (.lit 0),.int .u64 (.lit 0),.int .u64 (.lit 0),.int .u64 (.lit 0),.int .u64 (.lit 0),.int .u64 (.lit 0),.int .u64 (.lit 0),.int .u64 (.lit 0),.int .u64 (.lit 0),.int .u64 (.lit 0),.int .u64 (.lit 0),.int .i64 (.lit 0),.int .u8 (.lit 0),.int .u8 (.lit 0),.int .u8 (.lit 0),.int .u8 (.lit 0),.int .u8 (.lit 0),.int .u8 (.lit 0),.int .u8 (.lit 0),.int .u8 (.lit 0),.int .u8 (.lit 0),.int .u8 (.lit 0),.int .u8 (.lit 0),.int .u8 (.lit 0),.int .u8 (.lit 0),.int .u8 (.lit 0),.int .u8 (.lit 0),.int .u8 (.lit 0),.int .u8 (.lit 0),.int .u8 (.lit 0),.int .u8 (.lit 0),.int .u8 (.lit 0),.int .u8 (.lit 0),.int .u8 (.lit 0),.int .u8 (.lit 0),.int .u8 (.lit 0),.int .u8 (.lit 0),.int .u8 (.lit 0),.int .u8 (.lit 0),.int .u8 (.lit 0),.int .u8 (.lit 0),.int .u8 (.lit 0),.int .u8 (.lit 0),.int .u8 (.lit 0),.int .u8 (.lit 0),.int .u8 (.lit 0),.int .u8 (.lit 0),.int .u8 (.lit 0),.int .u8 (.lit 0),.int .u8 (.lit 0),.int .u8 (.lit 0),.int .u8 (.lit 0),.int .u8 (.lit 0),.int .u8 (.lit 0),.int .u8 (.lit 0),.int .u8 (.lit 0),.int .u8 (.lit 0),.int .u8 (.lit 0),.int .u8 (.lit 0),.int .u8 (.lit 0),.int .u8 (.lit 0),.int .u8 (.lit 0),.int .u8 (.lit 0),.int .u8 (.lit 0),.int .u8 (.lit 0),.int .u8 (.lit 0),.int .u8 (.lit 0),.int .u8 (.lit 0),.int .u8 (.lit 0),.int .u8 (.lit 0),.int .u8 (.lit 0),.int .u8 (.lit 0),.int .u8 (.lit 0),.int .u8 (.lit 0),.int .u8 (.lit 0),.int .u8 (.lit 0),.int .i64 (.lit 0),.int .i64 (.lit 0),.nsl,.nsl,.int .i8 (.lit 0)],[(0,24),(2,67),(3,56),(79,3),(80,3),(81,26),(82,31),(83,29)],none,none,false,false,none,272,false,none,false,0⟩),
 (81,⟨false,1,[.nilf],[],none,none,false,false,none,8,true,none,false,0⟩),
 (106,⟨true,3,[.int .u64 (.lit 0),.nsl,.bool (.tt false)],[(0,30),(1,25),(2,4)],none,none,false,false,none,40,false,none,false,0⟩),
 (107,⟨true,12,[.int .u64 (.lit 0),.nsl,.bool (.tt false),.int .u64 (.lit 0),.nsl,.bool (.tt false),.int .u64 (.lit 0),.nsl,.bool (.tt false),.int .u64 (.lit 0),.nsl,.bool (.tt false)],[],some (4,106),none,false,false,none,160,false,none,false,0⟩),
 (109,⟨true,12,[.int .u64 (.lit 0),.nsl,.bool (.tt false),.int .u64 (.lit 0),.nsl,.bool (.tt false),.int .u64 (.lit 0),.nsl,.bool (.tt false),.int .u64 (.lit 0),.nsl,.bool (.tt false)],[(0,107)],none,none,false,false,none,160,false,none,false,0⟩),
 (111,⟨true,7,[.nilf,.nilf,.nilf,.nilf,.nilf,.nilf,.nilf],[],some (7,81),none,false,false,none,56,false,none,false,0⟩)]
set_option maxRecDepth 100000 in
theorem sV:(tys_MoN.all fun p=>ckTI Try.prog p.1 p.2)=true:=by kernel_rfl
theorem mi:(tys_MoN.all fun p=>!p.2.eqok||((Nat.beq p.1 44&&bk p.2.zero iz)))=true:=by kernel_rfl
theorem sM:(tys_MoN.all fun p=>!p.2.keyok)=true:=by kernel_rfl
theorem sF:∀t i,(t,i)∈tys_MoN→TIok Try.prog t i:=by
 intro t i h
 refine dp (fU (f:=ckTI Try.prog) sV h) (fun he=> ?_) (fun he=> ?_) (fun he=> ?_)
 ·have h1:=List.all_eq_true.1 mi (t,i) h
  simp only[he,Bool.not_true,Bool.false_or,Bool.or_eq_true,Bool.and_eq_true] at h1
  have hs:=h1.2
  obtain rfl:=Nat.eq_of_beq_eq_true h1.1
  exact fun vs us hv hu=>js vs us (aI hs hv) (aI hs hu)
 ·have h1:=List.all_eq_true.1 mi (t,i) h
  simp only[he,Bool.not_true,Bool.false_or,Bool.or_eq_true,Bool.and_eq_true] at h1
  have hs:=h1.2
  obtain rfl:=Nat.eq_of_beq_eq_true h1.1
  exact eX
 ·have h1:=List.all_eq_true.1 sM (t,i) h
  simp[he] at h1
def jP (p:Prog) (cx:List (List Int)) (an:List (List Int)) (fu:Int):List Dt:=[.z (b2i true)]
def gm:List Dt→List Dt
 | [.z x0,.l x1,.l x2,.l x3,.z x4]=>jP ⟨x0,x1⟩ x2 x3 x4
 | _=>[]
set_option maxRecDepth 100000 in
def sT_lcounts:Tr:=
(.br (.lt (.lit 100) (.len (.lvar 1)))
(.call 12 [.bool] .nil 5
(.leaf (.consb (.bvar 5) .nil)))
(.br (.lt (.lit 400) (.len (.lvar 2)))
(.call 12 [.bool] .nil 5
(.leaf (.consb (.bvar 5) .nil)))
(.br (.lt (.lit 400) (.len (.lvar 3)))
(.call 12 [.bool] .nil 5
(.leaf (.consb (.bvar 5) .nil)))
(.br (.lt (.lit 2000) (.var 4))
(.br (.lt (.lit 10000) (.var 4))
(.call 10 (kOut++[.int .i64]) (.cons (.var 0) (.consl (.lvar 1) (.consl (.lvar 2) (.consl (.lvar 3) (.cons (.var 4) .nil))))) 5
(.call 11 [.sl [some .i64] 3] (.cons (.var 0) (.consl (.lvar 1) (.consl (.lvar 2) (.consl (.lvar 3) (.cons (.var 4) .nil))))) 11
(.br (.eq (.var 10) (.lit 0))
(.br (.eq (.len (.lvar 11)) (.len (.lvar 1)))
(.call 3 [.int .i64,.int .i64] (.cons (.var 0) (.consl (.lvar 1) .nil)) 12
(.br (.eq (.var 13) (.lit 0))
(.br (.eq (.len (.lvar 2)) (.var 0))
(.br (.lt (.var 4) (.lit 0))
(.loop 0 14 [.int .i64] (.cons (.lit 0) .nil)
(.br (.lt (.var 14) (.len (.lvar 11)))
(.br (.lt (.var 14) (.lit 0))
.panic
(.br (.eq (.get (.lvar 11) (.var 14) 0) (.lit 0))
(.next 0 (.cons (.bin .add .i64 (.var 14) (.lit 1)) .nil))
(.leaf (.consb (.tt false) .nil))))
(.br (.eq (.lit 0) (.bin .sub .i64 (.var 4) (.var 9)))
(.call 12 [.bool] .nil 15
(.leaf (.consb (.bvar 15) .nil)))
(.leaf (.consb (.tt false) .nil)))))
(.loop 0 14 [.int .i64] (.cons (.lit 0) .nil)
(.br (.lt (.var 14) (.len (.lvar 11)))
(.br (.lt (.var 14) (.lit 0))
.panic
(.br (.eq (.get (.lvar 11) (.var 14) 0) (.lit 0))
(.next 0 (.cons (.bin .add .i64 (.var 14) (.lit 1)) .nil))
(.leaf (.consb (.tt false) .nil))))
(.br (.eq (.lit 0) (.bin .sub .i64 (.var 4) (.var 9)))
(.call 12 [.bool] .nil 15
(.leaf (.consb (.bvar 15) .nil)))
(.leaf (.consb (.tt false) .nil))))))
(.loop 0 14 [.int .i64] (.cons (.lit 0) .nil)
(.br (.lt (.var 14) (.len (.lvar 11)))
(.br (.lt (.var 14) (.lit 0))
.panic
(.br (.eq (.get (.lvar 11) (.var 14) 0) (.lit 0))
(.next 0 (.cons (.bin .add .i64 (.var 14) (.lit 1)) .nil))
(.leaf (.consb (.tt false) .nil))))
(.br (.eq (.lit 0) (.bin .sub .i64 (.var 4) (.var 9)))
(.call 12 [.bool] .nil 15
(.leaf (.consb (.bvar 15) .nil)))
(.leaf (.consb (.tt false) .nil))))))
(.loop 0 14 [.int .i64] (.cons (.lit 0) .nil)
(.br (.lt (.var 14) (.len (.lvar 11)))
(.br (.lt (.var 14) (.lit 0))
.panic
(.br (.eq (.get (.lvar 11) (.var 14) 0) (.lit 0))
(.next 0 (.cons (.bin .add .i64 (.var 14) (.lit 1)) .nil))
(.leaf (.consb (.tt false) .nil))))
(.br (.eq (.lit 0) (.bin .sub .i64 (.var 4) (.var 9)))
(.call 12 [.bool] .nil 15
(.leaf (.consb (.bvar 15) .nil)))
(.leaf (.consb (.tt false) .nil)))))))
(.leaf (.consb (.tt false) .nil)))
(.br (.eq (.len (.lvar 11)) (.lit 0))
(.call 12 [.bool] .nil 12
(.leaf (.consb (.bvar 12) .nil)))
(.leaf (.consb (.tt false) .nil))))))
(.call 12 [.bool] .nil 5
(.leaf (.consb (.bvar 5) .nil))))
(.call 10 (kOut++[.int .i64]) (.cons (.var 0) (.consl (.lvar 1) (.consl (.lvar 2) (.consl (.lvar 3) (.cons (.var 4) .nil))))) 5
(.call 11 [.sl [some .i64] 3] (.cons (.var 0) (.consl (.lvar 1) (.consl (.lvar 2) (.consl (.lvar 3) (.cons (.var 4) .nil))))) 11
(.br (.eq (.var 10) (.lit 0))
(.br (.eq (.len (.lvar 11)) (.len (.lvar 1)))
(.call 3 [.int .i64,.int .i64] (.cons (.var 0) (.consl (.lvar 1) .nil)) 12
(.br (.eq (.var 13) (.lit 0))
(.br (.eq (.len (.lvar 2)) (.var 0))
(.br (.lt (.var 4) (.lit 0))
(.loop 0 14 [.int .i64] (.cons (.lit 0) .nil)
(.br (.lt (.var 14) (.len (.lvar 11)))
(.br (.lt (.var 14) (.lit 0))
.panic
(.br (.eq (.get (.lvar 11) (.var 14) 0) (.lit 0))
(.next 0 (.cons (.bin .add .i64 (.var 14) (.lit 1)) .nil))
(.leaf (.consb (.tt false) .nil))))
(.br (.eq (.lit 0) (.bin .sub .i64 (.var 4) (.var 9)))
(.call 12 [.bool] .nil 15
(.leaf (.consb (.bvar 15) .nil)))
(.leaf (.consb (.tt false) .nil)))))
(.br (.lt (.lit 10000) (.var 4))
(.loop 0 14 [.int .i64] (.cons (.lit 0) .nil)
(.br (.lt (.var 14) (.len (.lvar 11)))
(.br (.lt (.var 14) (.lit 0))
.panic
(.br (.eq (.get (.lvar 11) (.var 14) 0) (.lit 0))
(.next 0 (.cons (.bin .add .i64 (.var 14) (.lit 1)) .nil))
(.leaf (.consb (.tt false) .nil))))
(.br (.eq (.lit 0) (.bin .sub .i64 (.var 4) (.var 9)))
(.call 12 [.bool] .nil 15
(.leaf (.consb (.bvar 15) .nil)))
(.leaf (.consb (.tt false) .nil)))))
(.br (.lt (.lit 256) (.len (.lvar 2)))
(.loop 0 14 [.int .i64] (.cons (.lit 0) .nil)
(.br (.lt (.var 14) (.len (.lvar 11)))
(.br (.lt (.var 14) (.lit 0))
.panic
(.br (.eq (.get (.lvar 11) (.var 14) 0) (.lit 0))
(.next 0 (.cons (.bin .add .i64 (.var 14) (.lit 1)) .nil))
(.leaf (.consb (.tt false) .nil))))
(.br (.eq (.lit 0) (.bin .sub .i64 (.var 4) (.var 9)))
(.call 12 [.bool] .nil 15
(.leaf (.consb (.bvar 15) .nil)))
(.leaf (.consb (.tt false) .nil)))))
(.br (.lt (.len (.lvar 2)) (.lit 1073741824))
(.loop 0 14 [.int .i64,.int .u64,.int .u64,.int .u64,.int .u64,.int .u64,.int .u64,.int .u64,.int .u64,.int .u64,.int .u64,.int .u64,.int .i64,.int .u8,.int .u8,.int .u8,.int .u8,.int .u8,.int .u8,.int .u8,.int .u8,.int .u8,.int .u8,.int .u8,.int .u8,.int .u8,.int .u8,.int .u8,.int .u8,.int .u8,.int .u8,.int .u8,.int .u8,.int .u8,.int .u8,.int .u8,.int .u8,.int .u8,.int .u8,.int .u8,.int .u8,.int .u8,.int .u8,.int .u8,.int .u8,.int .u8,.int .u8,.int .u8,.int .u8,.int .u8,.int .u8,.int .u8,.int .u8,.int .u8,.int .u8,.int .u8,.int .u8,.int .u8,.int .u8,.int .u8,.int .u8,.int .u8,.int .u8,.int .u8,.int .u8,.int .u8,.int .u8,.int .u8,.int .u8,.int .u8,.int .u8,.int .u8,.int .u8,.int .u8,.int .u8,.int .u8,.int .u8,.int .i64,.int .i64,.int .i64,.int .i64,.list [some .u64],.list [some .i64,some .u64,some .i64,some .u64,some .u64,some .u64,some .u64,some .u64],.list [some .u8],.list [some .u8],.list [some .i64]] (.cons (.var 4) (.cons (.lit 0) (.cons (.lit 2097152) (.cons (.lit 0) (.cons (.lit 0) (.cons (.lit 0) (.cons (.lit 0) (.cons (.lit 0) (.cons (.lit 0) (.cons (.lit 0) (.cons (.lit 0) (.cons (.lit 3145792) (.cons (.lit 1026) (.cons (.lit 0) (.cons (.lit 0) (.cons (.lit 0) (.cons (.lit 0) (.cons (.lit 0) (.cons (.lit 0) (.cons (.lit 0) (.cons (.lit 0) (.cons (.lit 0) (.cons (.lit 0) (.cons (.lit 0) (.cons (.lit 0) (.cons (.lit 0) (.cons (.lit 0) (.cons (.lit 0) (.cons (.lit 0) (.cons (.lit 0) (.cons (.lit 0) (.cons (.lit 0) (.cons (.lit 0) (.cons (.lit 0) (.cons (.lit 0) (.cons (.lit 0) (.cons (.lit 0) (.cons (.lit 0) (.cons (.lit 0) (.cons (.lit 0) (.cons (.lit 0) (.cons (.lit 0) (.cons (.lit 0) (.cons (.lit 0) (.cons (.lit 0) (.cons (.lit 0) (.cons (.lit 0) (.cons (.lit 0) (.cons (.lit 0) (.cons (.lit 0) (.cons (.lit 0) (.cons (.lit 0) (.cons (.lit 0) (.cons (.lit 0) (.cons (.lit 0) (.cons (.lit 0) (.cons (.lit 0) (.cons (.lit 0) (.cons (.lit 0) (.cons (.lit 0) (.cons (.lit 0) (.cons (.lit 0) (.cons (.lit 0) (.cons (.lit 0) (.cons (.lit 0) (.cons (.lit 0) (.cons (.lit 0) (.cons (.lit 0) (.cons (.lit 0) (.cons (.lit 0) (.cons (.lit 0) (.cons (.lit 0) (.cons (.lit 0) (.cons (.lit 0) (.cons (.lit 0) (.cons (.lit 0) (.cons (.lit 0) (.cons (.lit 0) (.cons (.lit 0) (.cons (.lit 0) (.cons (.lit (-1)) (.consl (.lvar 3) (.consl .lnil (.consl (.lvar 2) (.consl (.lrep (.lit 64) (.cons (.lit 0) .nil)) (.consl (.lvar 11) .nil))))))))))))))))))))))))))))))))))))))))))))))))))))))))))))))))))))))))))))))))))))))
(.br (.lt (.lit 0) (.var 14))
(.cut 1 100 []
(.br (.lt (.var 91) (.lit 0))
(.leaf (.consb (.tt false) .nil))
(.br (.lt (.var 91) (.len (.lvar 1)))
(.br (.eq (.var 93) (.lit 0))
(.br (.eq (.var 91) (.lit 0))
(.br (.eq (.var 16) (.lit 2097152))
(.br (.eq (.var 25) (.lit 3145792))
(.next 1 .nil)
(.leaf (.consb (.tt false) .nil)))
(.leaf (.consb (.tt false) .nil)))
(.leaf (.consb (.tt false) .nil)))
(.next 1 .nil))
(.leaf (.consb (.tt false) .nil))))
(.cut 2 100 []
(.br (.lt (.var 94) (.lit 0))
(.next 2 .nil)
(.br (.lt (.var 94) (.len (.lvar 1)))
(.call 13 [.int .i64,.bool] (.cons (.var 94) (.cons (.get (.lvar 1) (.var 94) 0) (.cons (.get (.lvar 1) (.var 94) 1) (.cons (.get (.lvar 1) (.var 94) 2) (.cons (.get (.lvar 1) (.var 94) 3) (.consb (.getb (.lvar 1) (.var 94) 4) (.cons (.get (.lvar 1) (.var 94) 5) (.cons (.get (.lvar 1) (.var 94) 6) (.cons (.get (.lvar 1) (.var 94) 7) (.cons (.get (.lvar 1) (.var 94) 8) .nil)))))))))) 100
(.br (.eq (.var 91) (.bin .add .i64 (.var 94) (.lit 1)))
(.br (.eq (.get (.lvar 1) (.var 94) 0) (.lit 4))
(.br (.eq (.var 91) (.var 100))
(.br (.eq (.get (.lvar 1) (.var 94) 0) (.lit 6))
(.leaf (.consb (.tt false) .nil))
(.next 2 .nil))
(.leaf (.consb (.tt false) .nil)))
(.br (.eq (.get (.lvar 1) (.var 94) 0) (.lit 6))
(.leaf (.consb (.tt false) .nil))
(.next 2 .nil)))
(.br (.bvar 101)
(.br (.eq (.var 91) (.var 100))
(.br (.eq (.get (.lvar 1) (.var 94) 0) (.lit 4))
(.br (.eq (.get (.lvar 1) (.var 94) 0) (.lit 6))
(.leaf (.consb (.tt false) .nil))
(.next 2 .nil))
(.br (.eq (.get (.lvar 1) (.var 94) 0) (.lit 6))
(.leaf (.consb (.tt false) .nil))
(.next 2 .nil)))
(.leaf (.consb (.tt false) .nil)))
(.leaf (.consb (.tt false) .nil)))))
.panic))
(.br (.lt (.var 91) (.lit 0))
.panic
(.br (.lt (.var 91) (.len (.lvar 99)))
(.br (.lt (.var 91) (.len (.lvar 1)))
(.call 9 [.int .i64] (.cons (.get (.lvar 1) (.var 91) 0) (.cons (.get (.lvar 1) (.var 91) 1) (.cons (.get (.lvar 1) (.var 91) 2) (.cons (.get (.lvar 1) (.var 91) 3) (.consb (.getb (.lvar 1) (.var 91) 4) (.cons (.get (.lvar 1) (.var 91) 5) (.cons (.get (.lvar 1) (.var 91) 6) (.cons (.get (.lvar 1) (.var 91) 7) (.cons (.get (.lvar 1) (.var 91) 8) .nil))))))))) 100
(.br (.eq (.bin .andNot .i64 (.var 100) (.var 26)) (.lit 0))
(.br (.eq (.get (.lvar 1) (.var 91) 0) (.lit 0))
(.br (.lt (.get (.lvar 1) (.var 91) 5) (.lit 0))
.panic
(.br (.lt (.get (.lvar 1) (.var 91) 5) (.lit 11))
(.call 1 [.int .u64] (.vs 15 11 (.cons (.get (.lvar 1) (.var 91) 0) (.cons (.get (.lvar 1) (.var 91) 1) (.cons (.get (.lvar 1) (.var 91) 2) (.cons (.get (.lvar 1) (.var 91) 3) (.consb (.getb (.lvar 1) (.var 91) 4) (.cons (.get (.lvar 1) (.var 91) 5) (.cons (.get (.lvar 1) (.var 91) 6) (.cons (.get (.lvar 1) (.var 91) 7) (.cons (.get (.lvar 1) (.var 91) 8) .nil)))))))))) 101
(.call 6 [.int .u64,.int .i64] (.cons (.get (.lvar 1) (.var 91) 1) (.cons (.get (.lvar 1) (.var 91) 2) (.cons (.nth (.get (.lvar 1) (.var 91) 5) (.vs 15 11 .nil)) (.cons (.var 101) .nil)))) 102
(.next 0 (.cons (.bin .sub .i64 (.var 14) (.lit 1)) (.cons (.ite (.eq (.get (.lvar 1) (.var 91) 5) (.lit 0)) (.var 102) (.var 15)) (.cons (.ite (.eq (.get (.lvar 1) (.var 91) 5) (.lit 1)) (.var 102) (.var 16)) (.cons (.ite (.eq (.get (.lvar 1) (.var 91) 5) (.lit 2)) (.var 102) (.var 17)) (.cons (.ite (.eq (.get (.lvar 1) (.var 91) 5) (.lit 3)) (.var 102) (.var 18)) (.cons (.ite (.eq (.get (.lvar 1) (.var 91) 5) (.lit 4)) (.var 102) (.var 19)) (.cons (.ite (.eq (.get (.lvar 1) (.var 91) 5) (.lit 5)) (.var 102) (.var 20)) (.cons (.ite (.eq (.get (.lvar 1) (.var 91) 5) (.lit 6)) (.var 102) (.var 21)) (.cons (.ite (.eq (.get (.lvar 1) (.var 91) 5) (.lit 7)) (.var 102) (.var 22)) (.cons (.ite (.eq (.get (.lvar 1) (.var 91) 5) (.lit 8)) (.var 102) (.var 23)) (.cons (.ite (.eq (.get (.lvar 1) (.var 91) 5) (.lit 9)) (.var 102) (.var 24)) (.cons (.ite (.eq (.get (.lvar 1) (.var 91) 5) (.lit 10)) (.var 102) (.var 25)) (.cons (.bin .or .i64 (.var 26) (.bin .shl .i64 (.lit 1) (.get (.lvar 1) (.var 91) 5))) (.vs 27 64 (.cons (.bin .add .i64 (.var 91) (.lit 1)) (.cons (.bin .add .i64 (.var 91) (.lit 1)) (.cons (.bin .add .i64 (.var 93) (.lit 1)) (.cons (.var 91) (.consl (.lvar 95) (.consl (.lvar 96) (.consl (.lvar 97) (.consl (.lvar 98) (.consl (.lset (.lvar 99) (.var 91) 0 (.bin .sub .i64 (.get (.lvar 99) (.var 91) 0) (.lit 1))) .nil))))))))))))))))))))))))))
.panic))
(.br (.eq (.get (.lvar 1) (.var 91) 0) (.lit 1))
(.br (.lt (.get (.lvar 1) (.var 91) 6) (.lit 0))
.panic
(.br (.lt (.get (.lvar 1) (.var 91) 6) (.lit 11))
(.call 0 [.int .u64] (.cons (.get (.lvar 1) (.var 91) 7) .nil) 101
(.call 8 [.int .u64,.int .i64] (.cons (.lit 1048576) (.consl (.lrep (.lit 0) (.cons (.lit 0) .nil)) (.consb (.tt false) (.cons (.lit 2097152) (.consl (.lvar 97) (.consb (.tt true) (.cons (.lit 3145728) (.consl (.lvar 98) (.consb (.tt true) (.cons (.lit 4194304) (.consl .lnil (.consb (.tt true) (.cons (.bin .add .u64 (.nth (.get (.lvar 1) (.var 91) 6) (.vs 15 11 .nil)) (.var 101)) (.cons (.conv .i64 (.get (.lvar 1) (.var 91) 3)) .nil)))))))))))))) 102
(.br (.eq (.var 103) (.lit 0))
(.br (.lt (.get (.lvar 1) (.var 91) 5) (.lit 0))
.panic
(.br (.lt (.get (.lvar 1) (.var 91) 5) (.lit 11))
(.next 0 (.cons (.bin .sub .i64 (.var 14) (.lit 1)) (.cons (.ite (.eq (.get (.lvar 1) (.var 91) 5) (.lit 0)) (.var 102) (.var 15)) (.cons (.ite (.eq (.get (.lvar 1) (.var 91) 5) (.lit 1)) (.var 102) (.var 16)) (.cons (.ite (.eq (.get (.lvar 1) (.var 91) 5) (.lit 2)) (.var 102) (.var 17)) (.cons (.ite (.eq (.get (.lvar 1) (.var 91) 5) (.lit 3)) (.var 102) (.var 18)) (.cons (.ite (.eq (.get (.lvar 1) (.var 91) 5) (.lit 4)) (.var 102) (.var 19)) (.cons (.ite (.eq (.get (.lvar 1) (.var 91) 5) (.lit 5)) (.var 102) (.var 20)) (.cons (.ite (.eq (.get (.lvar 1) (.var 91) 5) (.lit 6)) (.var 102) (.var 21)) (.cons (.ite (.eq (.get (.lvar 1) (.var 91) 5) (.lit 7)) (.var 102) (.var 22)) (.cons (.ite (.eq (.get (.lvar 1) (.var 91) 5) (.lit 8)) (.var 102) (.var 23)) (.cons (.ite (.eq (.get (.lvar 1) (.var 91) 5) (.lit 9)) (.var 102) (.var 24)) (.cons (.ite (.eq (.get (.lvar 1) (.var 91) 5) (.lit 10)) (.var 102) (.var 25)) (.cons (.bin .or .i64 (.var 26) (.bin .shl .i64 (.lit 1) (.get (.lvar 1) (.var 91) 5))) (.vs 27 64 (.cons (.bin .add .i64 (.var 91) (.lit 1)) (.cons (.bin .add .i64 (.var 91) (.lit 1)) (.cons (.bin .add .i64 (.var 93) (.lit 1)) (.cons (.var 91) (.consl (.lvar 95) (.consl (.lvar 96) (.consl (.lvar 97) (.consl (.lvar 98) (.consl (.lset (.lvar 99) (.var 91) 0 (.bin .sub .i64 (.get (.lvar 99) (.var 91) 0) (.lit 1))) .nil))))))))))))))))))))))))
.panic))
(.loop 3 104 [.int .i64] (.cons (.lit 0) .nil)
(.br (.lt (.var 104) (.len (.lvar 99)))
(.br (.lt (.var 104) (.lit 0))
.panic
(.br (.eq (.get (.lset (.lvar 99) (.var 91) 0 (.bin .sub .i64 (.get (.lvar 99) (.var 91) 0) (.lit 1))) (.var 104) 0) (.lit 0))
(.next 3 (.cons (.bin .add .i64 (.var 104) (.lit 1)) .nil))
(.leaf (.consb (.tt false) .nil))))
(.br (.eq (.bin .add .i64 (.var 93) (.lit 1)) (.bin .sub .i64 (.var 4) (.var 9)))
(.call 12 [.bool] .nil 105
(.leaf (.consb (.bvar 105) .nil)))
(.leaf (.consb (.tt false) .nil))))))))
.panic))
(.br (.eq (.get (.lvar 1) (.var 91) 0) (.lit 2))
(.br (.lt (.get (.lvar 1) (.var 91) 5) (.lit 0))
.panic
(.br (.lt (.get (.lvar 1) (.var 91) 5) (.lit 11))
(.call 0 [.int .u64] (.cons (.get (.lvar 1) (.var 91) 7) .nil) 101
(.br (.lt (.get (.lvar 1) (.var 91) 6) (.lit 0))
.panic
(.br (.lt (.get (.lvar 1) (.var 91) 6) (.lit 11))
(.cut 3 102 []
(.br (.eq (.conv .i64 (.get (.lvar 1) (.var 91) 3)) (.lit 1))
(.next 3 .nil)
(.br (.eq (.conv .i64 (.get (.lvar 1) (.var 91) 3)) (.lit 2))
(.next 3 .nil)
(.br (.eq (.conv .i64 (.get (.lvar 1) (.var 91) 3)) (.lit 4))
(.next 3 .nil)
(.br (.eq (.conv .i64 (.get (.lvar 1) (.var 91) 3)) (.lit 8))
(.next 3 .nil)
(.loop 4 102 [.int .i64,.list [some .u8],.list [some .u8]] (.cons (.lit 0) (.consl (.lvar 97) (.consl (.lvar 98) .nil)))
(.br (.lt (.var 102) (.lit 0))
(.br (.lt (.bin .mul .i64 (.lit 8) (.var 102)) (.lit 0))
.panic
.panic)
(.br (.lt (.len (.lvar 104)) (.lit 1073741824))
(.br (.eq (.len (.lvar 104)) (.lit 64))
(.loop 5 105 [.int .i64] (.cons (.lit 0) .nil)
(.br (.lt (.var 105) (.len (.lvar 99)))
(.br (.lt (.var 105) (.lit 0))
.panic
(.br (.eq (.get (.lset (.lvar 99) (.var 91) 0 (.bin .sub .i64 (.get (.lvar 99) (.var 91) 0) (.lit 1))) (.var 105) 0) (.lit 0))
(.next 5 (.cons (.bin .add .i64 (.var 105) (.lit 1)) .nil))
(.leaf (.consb (.tt false) .nil))))
(.br (.eq (.bin .add .i64 (.var 93) (.lit 1)) (.bin .sub .i64 (.var 4) (.var 9)))
(.call 12 [.bool] .nil 106
(.leaf (.consb (.bvar 106) .nil)))
(.leaf (.consb (.tt false) .nil)))))
(.stuck 225))
.panic)))))))
(.cut 4 102 []
(.cut 5 102 [.bool]
(.br (.lt (.bin .add .u64 (.nth (.get (.lvar 1) (.var 91) 5) (.vs 15 11 .nil)) (.var 101)) (.lit 1048576))
(.next 5 (.consb (.tt true) .nil))
(.br (.lt (.lit 0) (.bin .sub .u64 (.bin .add .u64 (.nth (.get (.lvar 1) (.var 91) 5) (.vs 15 11 .nil)) (.var 101)) (.lit 1048576)))
(.next 5 (.consb (.tt true) .nil))
(.next 5 (.consb (.lt (.bin .sub .u64 (.lit 0) (.bin .sub .u64 (.bin .add .u64 (.nth (.get (.lvar 1) (.var 91) 5) (.vs 15 11 .nil)) (.var 101)) (.lit 1048576))) (.conv .u64 (.conv .i64 (.get (.lvar 1) (.var 91) 3)))) .nil))))
(.br (.bvar 102)
(.next 4 .nil)
(.br (.lt (.bin .sub .u64 (.bin .add .u64 (.nth (.get (.lvar 1) (.var 91) 5) (.vs 15 11 .nil)) (.var 101)) (.lit 1048576)) (.lit 0))
.panic
(.br (.lt (.bin .add .i64 (.conv .i64 (.bin .sub .u64 (.bin .add .u64 (.nth (.get (.lvar 1) (.var 91) 5) (.vs 15 11 .nil)) (.var 101)) (.lit 1048576))) (.conv .i64 (.get (.lvar 1) (.var 91) 3))) (.bin .sub .u64 (.bin .add .u64 (.nth (.get (.lvar 1) (.var 91) 5) (.vs 15 11 .nil)) (.var 101)) (.lit 1048576)))
.panic
(.br (.lt (.lit 0) (.bin .add .i64 (.conv .i64 (.bin .sub .u64 (.bin .add .u64 (.nth (.get (.lvar 1) (.var 91) 5) (.vs 15 11 .nil)) (.var 101)) (.lit 1048576))) (.conv .i64 (.get (.lvar 1) (.var 91) 3))))
.panic
(.next 4 .nil))))))
(.cut 5 102 []
(.cut 6 102 [.bool]
(.br (.lt (.bin .add .u64 (.nth (.get (.lvar 1) (.var 91) 5) (.vs 15 11 .nil)) (.var 101)) (.lit 2097152))
(.next 6 (.consb (.tt true) .nil))
(.br (.lt (.conv .u64 (.len (.lvar 97))) (.bin .sub .u64 (.bin .add .u64 (.nth (.get (.lvar 1) (.var 91) 5) (.vs 15 11 .nil)) (.var 101)) (.lit 2097152)))
(.next 6 (.consb (.tt true) .nil))
(.next 6 (.consb (.lt (.bin .sub .u64 (.conv .u64 (.len (.lvar 97))) (.bin .sub .u64 (.bin .add .u64 (.nth (.get (.lvar 1) (.var 91) 5) (.vs 15 11 .nil)) (.var 101)) (.lit 2097152))) (.conv .u64 (.conv .i64 (.get (.lvar 1) (.var 91) 3)))) .nil))))
(.br (.bvar 102)
(.next 5 .nil)
(.br (.lt (.bin .sub .u64 (.bin .add .u64 (.nth (.get (.lvar 1) (.var 91) 5) (.vs 15 11 .nil)) (.var 101)) (.lit 2097152)) (.lit 0))
.panic
(.br (.lt (.bin .add .i64 (.conv .i64 (.bin .sub .u64 (.bin .add .u64 (.nth (.get (.lvar 1) (.var 91) 5) (.vs 15 11 .nil)) (.var 101)) (.lit 2097152))) (.conv .i64 (.get (.lvar 1) (.var 91) 3))) (.bin .sub .u64 (.bin .add .u64 (.nth (.get (.lvar 1) (.var 91) 5) (.vs 15 11 .nil)) (.var 101)) (.lit 2097152)))
.panic
(.br (.lt (.len (.lvar 97)) (.bin .add .i64 (.conv .i64 (.bin .sub .u64 (.bin .add .u64 (.nth (.get (.lvar 1) (.var 91) 5) (.vs 15 11 .nil)) (.var 101)) (.lit 2097152))) (.conv .i64 (.get (.lvar 1) (.var 91) 3))))
.panic
(.loop 7 103 [.int .i64,.list [some .u8],.list [some .u8]] (.cons (.lit 0) (.consl (.lvar 97) (.consl (.lvar 98) .nil)))
(.br (.lt (.var 103) (.len (.ldrop (.ltake (.lvar 97) (.bin .add .i64 (.conv .i64 (.bin .sub .u64 (.bin .add .u64 (.nth (.get (.lvar 1) (.var 91) 5) (.vs 15 11 .nil)) (.var 101)) (.lit 2097152))) (.conv .i64 (.get (.lvar 1) (.var 91) 3)))) (.bin .sub .u64 (.bin .add .u64 (.nth (.get (.lvar 1) (.var 91) 5) (.vs 15 11 .nil)) (.var 101)) (.lit 2097152)))))
(.br (.lt (.bin .mul .i64 (.lit 8) (.var 103)) (.lit 0))
.panic
(.br (.lt (.len (.lvar 104)) (.bin .add .i64 (.conv .i64 (.bin .sub .u64 (.bin .add .u64 (.nth (.get (.lvar 1) (.var 91) 5) (.vs 15 11 .nil)) (.var 101)) (.lit 2097152))) (.conv .i64 (.get (.lvar 1) (.var 91) 3))))
(.stuck 185)
(.br (.lt (.var 103) (.lit 0))
.panic
(.br (.lt (.var 103) (.len (.ldrop (.ltake (.lvar 104) (.bin .add .i64 (.conv .i64 (.bin .sub .u64 (.bin .add .u64 (.nth (.get (.lvar 1) (.var 91) 5) (.vs 15 11 .nil)) (.var 101)) (.lit 2097152))) (.conv .i64 (.get (.lvar 1) (.var 91) 3)))) (.bin .sub .u64 (.bin .add .u64 (.nth (.get (.lvar 1) (.var 91) 5) (.vs 15 11 .nil)) (.var 101)) (.lit 2097152)))))
(.br (.lt (.bin .add .i64 (.bin .sub .u64 (.bin .add .u64 (.nth (.get (.lvar 1) (.var 91) 5) (.vs 15 11 .nil)) (.var 101)) (.lit 2097152)) (.var 103)) (.lit 0))
(.stuck 58)
(.br (.lt (.bin .add .i64 (.bin .sub .u64 (.bin .add .u64 (.nth (.get (.lvar 1) (.var 91) 5) (.vs 15 11 .nil)) (.var 101)) (.lit 2097152)) (.var 103)) (.len (.lvar 104)))
(.next 7 (.cons (.bin .add .i64 (.var 103) (.lit 1)) (.consl (.lset (.lvar 104) (.bin .add .i64 (.bin .sub .u64 (.bin .add .u64 (.nth (.get (.lvar 1) (.var 91) 5) (.vs 15 11 .nil)) (.var 101)) (.lit 2097152)) (.var 103)) 0 (.conv .u8 (.bin .shr .u64 (.nth (.get (.lvar 1) (.var 91) 6) (.vs 15 11 .nil)) (.bin .mul .i64 (.lit 8) (.var 103))))) (.consl (.lvar 105) .nil))))
(.stuck 58)))
.panic))))
(.br (.lt (.len (.lvar 105)) (.lit 1073741824))
(.br (.eq (.len (.lvar 105)) (.lit 64))
(.next 0 (.cons (.bin .sub .i64 (.var 14) (.lit 1)) (.vs 15 12 (.cons (.get (.lvar 105) (.lit 0) 0) (.cons (.get (.lvar 105) (.lit 1) 0) (.cons (.get (.lvar 105) (.lit 2) 0) (.cons (.get (.lvar 105) (.lit 3) 0) (.cons (.get (.lvar 105) (.lit 4) 0) (.cons (.get (.lvar 105) (.lit 5) 0) (.cons (.get (.lvar 105) (.lit 6) 0) (.cons (.get (.lvar 105) (.lit 7) 0) (.cons (.get (.lvar 105) (.lit 8) 0) (.cons (.get (.lvar 105) (.lit 9) 0) (.cons (.get (.lvar 105) (.lit 10) 0) (.cons (.get (.lvar 105) (.lit 11) 0) (.cons (.get (.lvar 105) (.lit 12) 0) (.cons (.get (.lvar 105) (.lit 13) 0) (.cons (.get (.lvar 105) (.lit 14) 0) (.cons (.get (.lvar 105) (.lit 15) 0) (.cons (.get (.lvar 105) (.lit 16) 0) (.cons (.get (.lvar 105) (.lit 17) 0) (.cons (.get (.lvar 105) (.lit 18) 0) (.cons (.get (.lvar 105) (.lit 19) 0) (.cons (.get (.lvar 105) (.lit 20) 0) (.cons (.get (.lvar 105) (.lit 21) 0) (.cons (.get (.lvar 105) (.lit 22) 0) (.cons (.get (.lvar 105) (.lit 23) 0) (.cons (.get (.lvar 105) (.lit 24) 0) (.cons (.get (.lvar 105) (.lit 25) 0) (.cons (.get (.lvar 105) (.lit 26) 0) (.cons (.get (.lvar 105) (.lit 27) 0) (.cons (.get (.lvar 105) (.lit 28) 0) (.cons (.get (.lvar 105) (.lit 29) 0) (.cons (.get (.lvar 105) (.lit 30) 0) (.cons (.get (.lvar 105) (.lit 31) 0) (.cons (.get (.lvar 105) (.lit 32) 0) (.cons (.get (.lvar 105) (.lit 33) 0) (.cons (.get (.lvar 105) (.lit 34) 0) (.cons (.get (.lvar 105) (.lit 35) 0) (.cons (.get (.lvar 105) (.lit 36) 0) (.cons (.get (.lvar 105) (.lit 37) 0) (.cons (.get (.lvar 105) (.lit 38) 0) (.cons (.get (.lvar 105) (.lit 39) 0) (.cons (.get (.lvar 105) (.lit 40) 0) (.cons (.get (.lvar 105) (.lit 41) 0) (.cons (.get (.lvar 105) (.lit 42) 0) (.cons (.get (.lvar 105) (.lit 43) 0) (.cons (.get (.lvar 105) (.lit 44) 0) (.cons (.get (.lvar 105) (.lit 45) 0) (.cons (.get (.lvar 105) (.lit 46) 0) (.cons (.get (.lvar 105) (.lit 47) 0) (.cons (.get (.lvar 105) (.lit 48) 0) (.cons (.get (.lvar 105) (.lit 49) 0) (.cons (.get (.lvar 105) (.lit 50) 0) (.cons (.get (.lvar 105) (.lit 51) 0) (.cons (.get (.lvar 105) (.lit 52) 0) (.cons (.get (.lvar 105) (.lit 53) 0) (.cons (.get (.lvar 105) (.lit 54) 0) (.cons (.get (.lvar 105) (.lit 55) 0) (.cons (.get (.lvar 105) (.lit 56) 0) (.cons (.get (.lvar 105) (.lit 57) 0) (.cons (.get (.lvar 105) (.lit 58) 0) (.cons (.get (.lvar 105) (.lit 59) 0) (.cons (.get (.lvar 105) (.lit 60) 0) (.cons (.get (.lvar 105) (.lit 61) 0) (.cons (.get (.lvar 105) (.lit 62) 0) (.cons (.get (.lvar 105) (.lit 63) 0) (.cons (.bin .add .i64 (.var 91) (.lit 1)) (.cons (.bin .add .i64 (.var 91) (.lit 1)) (.cons (.bin .add .i64 (.var 93) (.lit 1)) (.cons (.var 91) (.consl (.lvar 95) (.consl (.lvar 96) (.consl (.lvar 104) (.consl (.lvar 105) (.consl (.lset (.lvar 99) (.var 91) 0 (.bin .sub .i64 (.get (.lvar 99) (.var 91) 0) (.lit 1))) .nil))))))))))))))))))))))))))))))))))))))))))))))))))))))))))))))))))))))))))))
(.stuck 225))
.panic))))))))
(.cut 6 102 []
(.cut 7 102 [.bool]
(.br (.lt (.bin .add .u64 (.nth (.get (.lvar 1) (.var 91) 5) (.vs 15 11 .nil)) (.var 101)) (.lit 3145728))
(.next 7 (.consb (.tt true) .nil))
(.br (.lt (.conv .u64 (.len (.lvar 98))) (.bin .sub .u64 (.bin .add .u64 (.nth (.get (.lvar 1) (.var 91) 5) (.vs 15 11 .nil)) (.var 101)) (.lit 3145728)))
(.next 7 (.consb (.tt true) .nil))
(.next 7 (.consb (.lt (.bin .sub .u64 (.conv .u64 (.len (.lvar 98))) (.bin .sub .u64 (.bin .add .u64 (.nth (.get (.lvar 1) (.var 91) 5) (.vs 15 11 .nil)) (.var 101)) (.lit 3145728))) (.conv .u64 (.conv .i64 (.get (.lvar 1) (.var 91) 3)))) .nil))))
(.br (.bvar 102)
(.next 6 .nil)
(.br (.lt (.bin .sub .u64 (.bin .add .u64 (.nth (.get (.lvar 1) (.var 91) 5) (.vs 15 11 .nil)) (.var 101)) (.lit 3145728)) (.lit 0))
.panic
(.br (.lt (.bin .add .i64 (.conv .i64 (.bin .sub .u64 (.bin .add .u64 (.nth (.get (.lvar 1) (.var 91) 5) (.vs 15 11 .nil)) (.var 101)) (.lit 3145728))) (.conv .i64 (.get (.lvar 1) (.var 91) 3))) (.bin .sub .u64 (.bin .add .u64 (.nth (.get (.lvar 1) (.var 91) 5) (.vs 15 11 .nil)) (.var 101)) (.lit 3145728)))
.panic
(.br (.lt (.len (.lvar 98)) (.bin .add .i64 (.conv .i64 (.bin .sub .u64 (.bin .add .u64 (.nth (.get (.lvar 1) (.var 91) 5) (.vs 15 11 .nil)) (.var 101)) (.lit 3145728))) (.conv .i64 (.get (.lvar 1) (.var 91) 3))))
.panic
(.loop 8 103 [.int .i64,.list [some .u8],.list [some .u8]] (.cons (.lit 0) (.consl (.lvar 97) (.consl (.lvar 98) .nil)))
(.br (.lt (.var 103) (.len (.ldrop (.ltake (.lvar 98) (.bin .add .i64 (.conv .i64 (.bin .sub .u64 (.bin .add .u64 (.nth (.get (.lvar 1) (.var 91) 5) (.vs 15 11 .nil)) (.var 101)) (.lit 3145728))) (.conv .i64 (.get (.lvar 1) (.var 91) 3)))) (.bin .sub .u64 (.bin .add .u64 (.nth (.get (.lvar 1) (.var 91) 5) (.vs 15 11 .nil)) (.var 101)) (.lit 3145728)))))
(.br (.lt (.bin .mul .i64 (.lit 8) (.var 103)) (.lit 0))
.panic
(.br (.lt (.len (.lvar 105)) (.bin .add .i64 (.conv .i64 (.bin .sub .u64 (.bin .add .u64 (.nth (.get (.lvar 1) (.var 91) 5) (.vs 15 11 .nil)) (.var 101)) (.lit 3145728))) (.conv .i64 (.get (.lvar 1) (.var 91) 3))))
(.stuck 185)
(.br (.lt (.var 103) (.lit 0))
.panic
(.br (.lt (.var 103) (.len (.ldrop (.ltake (.lvar 105) (.bin .add .i64 (.conv .i64 (.bin .sub .u64 (.bin .add .u64 (.nth (.get (.lvar 1) (.var 91) 5) (.vs 15 11 .nil)) (.var 101)) (.lit 3145728))) (.conv .i64 (.get (.lvar 1) (.var 91) 3)))) (.bin .sub .u64 (.bin .add .u64 (.nth (.get (.lvar 1) (.var 91) 5) (.vs 15 11 .nil)) (.var 101)) (.lit 3145728)))))
(.br (.lt (.bin .add .i64 (.bin .sub .u64 (.bin .add .u64 (.nth (.get (.lvar 1) (.var 91) 5) (.vs 15 11 .nil)) (.var 101)) (.lit 3145728)) (.var 103)) (.lit 0))
(.stuck 58)
(.br (.lt (.bin .add .i64 (.bin .sub .u64 (.bin .add .u64 (.nth (.get (.lvar 1) (.var 91) 5) (.vs 15 11 .nil)) (.var 101)) (.lit 3145728)) (.var 103)) (.len (.lvar 105)))
(.next 8 (.cons (.bin .add .i64 (.var 103) (.lit 1)) (.consl (.lvar 104) (.consl (.lset (.lvar 105) (.bin .add .i64 (.bin .sub .u64 (.bin .add .u64 (.nth (.get (.lvar 1) (.var 91) 5) (.vs 15 11 .nil)) (.var 101)) (.lit 3145728)) (.var 103)) 0 (.conv .u8 (.bin .shr .u64 (.nth (.get (.lvar 1) (.var 91) 6) (.vs 15 11 .nil)) (.bin .mul .i64 (.lit 8) (.var 103))))) .nil))))
(.stuck 58)))
.panic))))
(.br (.lt (.len (.lvar 105)) (.lit 1073741824))
(.br (.eq (.len (.lvar 105)) (.lit 64))
(.next 0 (.cons (.bin .sub .i64 (.var 14) (.lit 1)) (.vs 15 12 (.cons (.get (.lvar 105) (.lit 0) 0) (.cons (.get (.lvar 105) (.lit 1) 0) (.cons (.get (.lvar 105) (.lit 2) 0) (.cons (.get (.lvar 105) (.lit 3) 0) (.cons (.get (.lvar 105) (.lit 4) 0) (.cons (.get (.lvar 105) (.lit 5) 0) (.cons (.get (.lvar 105) (.lit 6) 0) (.cons (.get (.lvar 105) (.lit 7) 0) (.cons (.get (.lvar 105) (.lit 8) 0) (.cons (.get (.lvar 105) (.lit 9) 0) (.cons (.get (.lvar 105) (.lit 10) 0) (.cons (.get (.lvar 105) (.lit 11) 0) (.cons (.get (.lvar 105) (.lit 12) 0) (.cons (.get (.lvar 105) (.lit 13) 0) (.cons (.get (.lvar 105) (.lit 14) 0) (.cons (.get (.lvar 105) (.lit 15) 0) (.cons (.get (.lvar 105) (.lit 16) 0) (.cons (.get (.lvar 105) (.lit 17) 0) (.cons (.get (.lvar 105) (.lit 18) 0) (.cons (.get (.lvar 105) (.lit 19) 0) (.cons (.get (.lvar 105) (.lit 20) 0) (.cons (.get (.lvar 105) (.lit 21) 0) (.cons (.get (.lvar 105) (.lit 22) 0) (.cons (.get (.lvar 105) (.lit 23) 0) (.cons (.get (.lvar 105) (.lit 24) 0) (.cons (.get (.lvar 105) (.lit 25) 0) (.cons (.get (.lvar 105) (.lit 26) 0) (.cons (.get (.lvar 105) (.lit 27) 0) (.cons (.get (.lvar 105) (.lit 28) 0) (.cons (.get (.lvar 105) (.lit 29) 0) (.cons (.get (.lvar 105) (.lit 30) 0) (.cons (.get (.lvar 105) (.lit 31) 0) (.cons (.get (.lvar 105) (.lit 32) 0) (.cons (.get (.lvar 105) (.lit 33) 0) (.cons (.get (.lvar 105) (.lit 34) 0) (.cons (.get (.lvar 105) (.lit 35) 0) (.cons (.get (.lvar 105) (.lit 36) 0) (.cons (.get (.lvar 105) (.lit 37) 0) (.cons (.get (.lvar 105) (.lit 38) 0) (.cons (.get (.lvar 105) (.lit 39) 0) (.cons (.get (.lvar 105) (.lit 40) 0) (.cons (.get (.lvar 105) (.lit 41) 0) (.cons (.get (.lvar 105) (.lit 42) 0) (.cons (.get (.lvar 105) (.lit 43) 0) (.cons (.get (.lvar 105) (.lit 44) 0) (.cons (.get (.lvar 105) (.lit 45) 0) (.cons (.get (.lvar 105) (.lit 46) 0) (.cons (.get (.lvar 105) (.lit 47) 0) (.cons (.get (.lvar 105) (.lit 48) 0) (.cons (.get (.lvar 105) (.lit 49) 0) (.cons (.get (.lvar 105) (.lit 50) 0) (.cons (.get (.lvar 105) (.lit 51) 0) (.cons (.get (.lvar 105) (.lit 52) 0) (.cons (.get (.lvar 105) (.lit 53) 0) (.cons (.get (.lvar 105) (.lit 54) 0) (.cons (.get (.lvar 105) (.lit 55) 0) (.cons (.get (.lvar 105) (.lit 56) 0) (.cons (.get (.lvar 105) (.lit 57) 0) (.cons (.get (.lvar 105) (.lit 58) 0) (.cons (.get (.lvar 105) (.lit 59) 0) (.cons (.get (.lvar 105) (.lit 60) 0) (.cons (.get (.lvar 105) (.lit 61) 0) (.cons (.get (.lvar 105) (.lit 62) 0) (.cons (.get (.lvar 105) (.lit 63) 0) (.cons (.bin .add .i64 (.var 91) (.lit 1)) (.cons (.bin .add .i64 (.var 91) (.lit 1)) (.cons (.bin .add .i64 (.var 93) (.lit 1)) (.cons (.var 91) (.consl (.lvar 95) (.consl (.lvar 96) (.consl (.lvar 104) (.consl (.lvar 105) (.consl (.lset (.lvar 99) (.var 91) 0 (.bin .sub .i64 (.get (.lvar 99) (.var 91) 0) (.lit 1))) .nil))))))))))))))))))))))))))))))))))))))))))))))))))))))))))))))))))))))))))))
(.stuck 225))
.panic))))))))
(.cut 7 102 []
(.cut 8 102 [.bool]
(.br (.lt (.bin .add .u64 (.nth (.get (.lvar 1) (.var 91) 5) (.vs 15 11 .nil)) (.var 101)) (.lit 4194304))
(.next 8 (.consb (.tt true) .nil))
(.br (.lt (.lit 0) (.bin .sub .u64 (.bin .add .u64 (.nth (.get (.lvar 1) (.var 91) 5) (.vs 15 11 .nil)) (.var 101)) (.lit 4194304)))
(.next 8 (.consb (.tt true) .nil))
(.next 8 (.consb (.lt (.bin .sub .u64 (.lit 0) (.bin .sub .u64 (.bin .add .u64 (.nth (.get (.lvar 1) (.var 91) 5) (.vs 15 11 .nil)) (.var 101)) (.lit 4194304))) (.conv .u64 (.conv .i64 (.get (.lvar 1) (.var 91) 3)))) .nil))))
(.br (.bvar 102)
(.next 7 .nil)
(.stuck 50)))
(.loop 8 102 [.int .i64,.list [some .u8],.list [some .u8]] (.cons (.lit 0) (.consl (.lvar 97) (.consl (.lvar 98) .nil)))
(.br (.lt (.var 102) (.lit 0))
(.br (.lt (.bin .mul .i64 (.lit 8) (.var 102)) (.lit 0))
.panic
.panic)
(.br (.lt (.len (.lvar 104)) (.lit 1073741824))
(.br (.eq (.len (.lvar 104)) (.lit 64))
(.loop 9 105 [.int .i64] (.cons (.lit 0) .nil)
(.br (.lt (.var 105) (.len (.lvar 99)))
(.br (.lt (.var 105) (.lit 0))
.panic
(.br (.eq (.get (.lset (.lvar 99) (.var 91) 0 (.bin .sub .i64 (.get (.lvar 99) (.var 91) 0) (.lit 1))) (.var 105) 0) (.lit 0))
(.next 9 (.cons (.bin .add .i64 (.var 105) (.lit 1)) .nil))
(.leaf (.consb (.tt false) .nil))))
(.br (.eq (.bin .add .i64 (.var 93) (.lit 1)) (.bin .sub .i64 (.var 4) (.var 9)))
(.call 12 [.bool] .nil 106
(.leaf (.consb (.bvar 106) .nil)))
(.leaf (.consb (.tt false) .nil)))))
(.stuck 225))
.panic))))))))
.panic)))
.panic))
(.br (.eq (.get (.lvar 1) (.var 91) 0) (.lit 3))
(.br (.lt (.get (.lvar 1) (.var 91) 5) (.lit 0))
.panic
(.br (.lt (.get (.lvar 1) (.var 91) 5) (.lit 11))
(.call 1 [.int .u64] (.vs 15 11 (.cons (.get (.lvar 1) (.var 91) 0) (.cons (.get (.lvar 1) (.var 91) 1) (.cons (.get (.lvar 1) (.var 91) 2) (.cons (.get (.lvar 1) (.var 91) 3) (.consb (.getb (.lvar 1) (.var 91) 4) (.cons (.get (.lvar 1) (.var 91) 5) (.cons (.get (.lvar 1) (.var 91) 6) (.cons (.get (.lvar 1) (.var 91) 7) (.cons (.get (.lvar 1) (.var 91) 8) .nil)))))))))) 101
(.call 7 [.bool,.int .i64] (.cons (.get (.lvar 1) (.var 91) 1) (.cons (.lit 64) (.cons (.nth (.get (.lvar 1) (.var 91) 5) (.vs 15 11 .nil)) (.cons (.var 101) .nil)))) 102
(.br (.bvar 102)
(.call 4 [.int .i64,.bool] (.cons (.var 91) (.cons (.get (.lvar 1) (.var 91) 0) (.cons (.get (.lvar 1) (.var 91) 1) (.cons (.get (.lvar 1) (.var 91) 2) (.cons (.get (.lvar 1) (.var 91) 3) (.consb (.getb (.lvar 1) (.var 91) 4) (.cons (.get (.lvar 1) (.var 91) 5) (.cons (.get (.lvar 1) (.var 91) 6) (.cons (.get (.lvar 1) (.var 91) 7) (.cons (.get (.lvar 1) (.var 91) 8) .nil)))))))))) 104
(.next 0 (.cons (.bin .sub .i64 (.var 14) (.lit 1)) (.vs 15 76 (.cons (.var 104) (.cons (.var 104) (.cons (.bin .add .i64 (.var 93) (.lit 1)) (.cons (.var 91) (.consl (.lvar 95) (.consl (.lvar 96) (.consl (.lvar 97) (.consl (.lvar 98) (.consl (.lset (.lvar 99) (.var 91) 0 (.bin .sub .i64 (.get (.lvar 99) (.var 91) 0) (.lit 1))) .nil)))))))))))))
(.next 0 (.cons (.bin .sub .i64 (.var 14) (.lit 1)) (.vs 15 76 (.cons (.bin .add .i64 (.var 91) (.lit 1)) (.cons (.bin .add .i64 (.var 91) (.lit 1)) (.cons (.bin .add .i64 (.var 93) (.lit 1)) (.cons (.var 91) (.consl (.lvar 95) (.consl (.lvar 96) (.consl (.lvar 97) (.consl (.lvar 98) (.consl (.lset (.lvar 99) (.var 91) 0 (.bin .sub .i64 (.get (.lvar 99) (.var 91) 0) (.lit 1))) .nil)))))))))))))))
.panic))
(.br (.eq (.get (.lvar 1) (.var 91) 0) (.lit 4))
(.call 4 [.int .i64,.bool] (.cons (.var 91) (.cons (.get (.lvar 1) (.var 91) 0) (.cons (.get (.lvar 1) (.var 91) 1) (.cons (.get (.lvar 1) (.var 91) 2) (.cons (.get (.lvar 1) (.var 91) 3) (.consb (.getb (.lvar 1) (.var 91) 4) (.cons (.get (.lvar 1) (.var 91) 5) (.cons (.get (.lvar 1) (.var 91) 6) (.cons (.get (.lvar 1) (.var 91) 7) (.cons (.get (.lvar 1) (.var 91) 8) .nil)))))))))) 101
(.next 0 (.cons (.bin .sub .i64 (.var 14) (.lit 1)) (.vs 15 76 (.cons (.var 101) (.cons (.var 101) (.cons (.bin .add .i64 (.var 93) (.lit 1)) (.cons (.var 91) (.consl (.lvar 95) (.consl (.lvar 96) (.consl (.lvar 97) (.consl (.lvar 98) (.consl (.lset (.lvar 99) (.var 91) 0 (.bin .sub .i64 (.get (.lvar 99) (.var 91) 0) (.lit 1))) .nil)))))))))))))
(.br (.eq (.get (.lvar 1) (.var 91) 0) (.lit 5))
(.br (.eq (.len (.lvar 95)) (.lit 0))
(.loop 3 101 [.int .i64] (.cons (.lit 0) .nil)
(.br (.lt (.var 101) (.len (.lvar 99)))
(.br (.lt (.var 101) (.lit 0))
.panic
(.br (.eq (.get (.lset (.lvar 99) (.var 91) 0 (.bin .sub .i64 (.get (.lvar 99) (.var 91) 0) (.lit 1))) (.var 101) 0) (.lit 0))
(.next 3 (.cons (.bin .add .i64 (.var 101) (.lit 1)) .nil))
(.leaf (.consb (.tt false) .nil))))
(.br (.eq (.bin .add .i64 (.var 93) (.lit 1)) (.bin .sub .i64 (.var 4) (.var 9)))
(.call 12 [.bool] .nil 102
(.leaf (.consb (.bvar 102) .nil)))
(.leaf (.consb (.tt false) .nil)))))
(.call 5 [.int .i64] (.cons (.get (.lvar 1) (.var 91) 8) .nil) 101
(.br (.lt (.bin .add .i64 (.lit 1) (.var 101)) (.lit 1))
.panic
(.br (.lt (.lit 11) (.bin .add .i64 (.lit 1) (.var 101)))
.panic
(.br (.lt (.lit 0) (.len (.lvar 95)))
(.br (.lt (.lit 5) (.len (.ldrop (.ltake (.lapp (.lapp (.lapp (.lapp (.lapp (.lapp (.lapp (.lapp (.lapp (.lapp (.lapp .lnil (.cons (.var 15) .nil)) (.cons (.var 16) .nil)) (.cons (.var 17) .nil)) (.cons (.var 18) .nil)) (.cons (.var 19) .nil)) (.cons (.var 20) .nil)) (.cons (.var 21) .nil)) (.cons (.var 22) .nil)) (.cons (.var 23) .nil)) (.cons (.var 24) .nil)) (.cons (.var 25) .nil)) (.bin .add .i64 (.lit 1) (.var 101))) (.lit 1))))
(.stuck 220)
(.br (.lt (.len (.lvar 96)) (.lit 1073741824))
(.br (.lt (.len (.lvar 95)) (.lit 1))
.panic
(.next 0 (.cons (.bin .sub .i64 (.var 14) (.lit 1)) (.cons (.get (.lvar 95) (.lit 0) 0) (.cons (.lit 0) (.cons (.lit 0) (.cons (.lit 0) (.cons (.lit 0) (.cons (.lit 0) (.vs 21 5 (.cons (.bin .andNot .i64 (.bin .andNot .i64 (.bin .andNot .i64 (.bin .andNot .i64 (.bin .andNot .i64 (.bin .or .i64 (.var 26) (.lit 1)) (.lit 2)) (.lit 4)) (.lit 8)) (.lit 16)) (.lit 32)) (.vs 27 64 (.cons (.bin .add .i64 (.var 91) (.lit 1)) (.cons (.bin .add .i64 (.var 91) (.lit 1)) (.cons (.bin .add .i64 (.var 93) (.lit 1)) (.cons (.var 91) (.consl (.ldrop (.lvar 95) (.lit 1)) (.consl (.lapp (.lvar 96) (.cons (.get (.lvar 1) (.var 91) 8) (.cons (.get (.lvar 95) (.lit 0) 0) (.cons (.conv .i64 (.len (.ldrop (.ltake (.lapp (.lapp (.lapp (.lapp (.lapp (.lapp (.lapp (.lapp (.lapp (.lapp (.lapp .lnil (.cons (.var 15) .nil)) (.cons (.var 16) .nil)) (.cons (.var 17) .nil)) (.cons (.var 18) .nil)) (.cons (.var 19) .nil)) (.cons (.var 20) .nil)) (.cons (.var 21) .nil)) (.cons (.var 22) .nil)) (.cons (.var 23) .nil)) (.cons (.var 24) .nil)) (.cons (.var 25) .nil)) (.bin .add .i64 (.lit 1) (.var 101))) (.lit 1)))) (.cons (.get (.ldrop (.ltake (.lapp (.lapp (.lapp (.lapp (.lapp (.lapp (.lapp (.lapp (.lapp (.lapp (.lapp .lnil (.cons (.var 15) .nil)) (.cons (.var 16) .nil)) (.cons (.var 17) .nil)) (.cons (.var 18) .nil)) (.cons (.var 19) .nil)) (.cons (.var 20) .nil)) (.cons (.var 21) .nil)) (.cons (.var 22) .nil)) (.cons (.var 23) .nil)) (.cons (.var 24) .nil)) (.cons (.var 25) .nil)) (.bin .add .i64 (.lit 1) (.var 101))) (.lit 1)) (.lit 0) 0) (.cons (.get (.ldrop (.ltake (.lapp (.lapp (.lapp (.lapp (.lapp (.lapp (.lapp (.lapp (.lapp (.lapp (.lapp .lnil (.cons (.var 15) .nil)) (.cons (.var 16) .nil)) (.cons (.var 17) .nil)) (.cons (.var 18) .nil)) (.cons (.var 19) .nil)) (.cons (.var 20) .nil)) (.cons (.var 21) .nil)) (.cons (.var 22) .nil)) (.cons (.var 23) .nil)) (.cons (.var 24) .nil)) (.cons (.var 25) .nil)) (.bin .add .i64 (.lit 1) (.var 101))) (.lit 1)) (.lit 1) 0) (.cons (.get (.ldrop (.ltake (.lapp (.lapp (.lapp (.lapp (.lapp (.lapp (.lapp (.lapp (.lapp (.lapp (.lapp .lnil (.cons (.var 15) .nil)) (.cons (.var 16) .nil)) (.cons (.var 17) .nil)) (.cons (.var 18) .nil)) (.cons (.var 19) .nil)) (.cons (.var 20) .nil)) (.cons (.var 21) .nil)) (.cons (.var 22) .nil)) (.cons (.var 23) .nil)) (.cons (.var 24) .nil)) (.cons (.var 25) .nil)) (.bin .add .i64 (.lit 1) (.var 101))) (.lit 1)) (.lit 2) 0) (.cons (.get (.ldrop (.ltake (.lapp (.lapp (.lapp (.lapp (.lapp (.lapp (.lapp (.lapp (.lapp (.lapp (.lapp .lnil (.cons (.var 15) .nil)) (.cons (.var 16) .nil)) (.cons (.var 17) .nil)) (.cons (.var 18) .nil)) (.cons (.var 19) .nil)) (.cons (.var 20) .nil)) (.cons (.var 21) .nil)) (.cons (.var 22) .nil)) (.cons (.var 23) .nil)) (.cons (.var 24) .nil)) (.cons (.var 25) .nil)) (.bin .add .i64 (.lit 1) (.var 101))) (.lit 1)) (.lit 3) 0) (.cons (.get (.ldrop (.ltake (.lapp (.lapp (.lapp (.lapp (.lapp (.lapp (.lapp (.lapp (.lapp (.lapp (.lapp .lnil (.cons (.var 15) .nil)) (.cons (.var 16) .nil)) (.cons (.var 17) .nil)) (.cons (.var 18) .nil)) (.cons (.var 19) .nil)) (.cons (.var 20) .nil)) (.cons (.var 21) .nil)) (.cons (.var 22) .nil)) (.cons (.var 23) .nil)) (.cons (.var 24) .nil)) (.cons (.var 25) .nil)) (.bin .add .i64 (.lit 1) (.var 101))) (.lit 1)) (.lit 4) 0) .nil))))))))) (.consl (.lvar 97) (.consl (.lvar 98) (.consl (.lset (.lvar 99) (.var 91) 0 (.bin .sub .i64 (.get (.lvar 99) (.var 91) 0) (.lit 1))) .nil)))))))))))))))))))))
.panic))
.panic)))))
(.br (.eq (.get (.lvar 1) (.var 91) 0) (.lit 6))
(.loop 3 101 [.int .i64] (.cons (.lit 0) .nil)
(.br (.lt (.var 101) (.len (.lvar 99)))
(.br (.lt (.var 101) (.lit 0))
.panic
(.br (.eq (.get (.lset (.lvar 99) (.var 91) 0 (.bin .sub .i64 (.get (.lvar 99) (.var 91) 0) (.lit 1))) (.var 101) 0) (.lit 0))
(.next 3 (.cons (.bin .add .i64 (.var 101) (.lit 1)) .nil))
(.leaf (.consb (.tt false) .nil))))
(.br (.eq (.bin .add .i64 (.var 93) (.lit 1)) (.bin .sub .i64 (.var 4) (.var 9)))
(.call 12 [.bool] .nil 102
(.leaf (.consb (.bvar 102) .nil)))
(.leaf (.consb (.tt false) .nil)))))
.panic)))))))
(.loop 3 101 [.int .i64] (.cons (.lit 0) .nil)
(.br (.lt (.var 101) (.len (.lvar 99)))
(.br (.lt (.var 101) (.lit 0))
.panic
(.br (.eq (.get (.lset (.lvar 99) (.var 91) 0 (.bin .sub .i64 (.get (.lvar 99) (.var 91) 0) (.lit 1))) (.var 101) 0) (.lit 0))
(.next 3 (.cons (.bin .add .i64 (.var 101) (.lit 1)) .nil))
(.leaf (.consb (.tt false) .nil))))
(.br (.eq (.bin .add .i64 (.var 93) (.lit 1)) (.bin .sub .i64 (.var 4) (.var 9)))
(.call 12 [.bool] .nil 102
(.leaf (.consb (.bvar 102) .nil)))
(.leaf (.consb (.tt false) .nil)))))))
.panic)
.panic))))
(.loop 1 100 [.int .i64] (.cons (.lit 0) .nil)
(.br (.lt (.var 100) (.len (.lvar 99)))
(.br (.lt (.var 100) (.lit 0))
.panic
(.br (.eq (.get (.lvar 99) (.var 100) 0) (.lit 0))
(.next 1 (.cons (.bin .add .i64 (.var 100) (.lit 1)) .nil))
(.leaf (.consb (.tt false) .nil))))
(.br (.eq (.var 93) (.bin .sub .i64 (.var 4) (.var 9)))
(.call 12 [.bool] .nil 101
(.leaf (.consb (.bvar 101) .nil)))
(.leaf (.consb (.tt false) .nil)))))))
.panic))))
(.loop 0 14 [.int .i64] (.cons (.lit 0) .nil)
(.br (.lt (.var 14) (.len (.lvar 11)))
(.br (.lt (.var 14) (.lit 0))
.panic
(.br (.eq (.get (.lvar 11) (.var 14) 0) (.lit 0))
(.next 0 (.cons (.bin .add .i64 (.var 14) (.lit 1)) .nil))
(.leaf (.consb (.tt false) .nil))))
(.br (.eq (.lit 0) (.bin .sub .i64 (.var 4) (.var 9)))
(.call 12 [.bool] .nil 15
(.leaf (.consb (.bvar 15) .nil)))
(.leaf (.consb (.tt false) .nil))))))
(.loop 0 14 [.int .i64] (.cons (.lit 0) .nil)
(.br (.lt (.var 14) (.len (.lvar 11)))
(.br (.lt (.var 14) (.lit 0))
.panic
(.br (.eq (.get (.lvar 11) (.var 14) 0) (.lit 0))
(.next 0 (.cons (.bin .add .i64 (.var 14) (.lit 1)) .nil))
(.leaf (.consb (.tt false) .nil))))
(.br (.eq (.lit 0) (.bin .sub .i64 (.var 4) (.var 9)))
(.call 12 [.bool] .nil 15
(.leaf (.consb (.bvar 15) .nil)))
(.leaf (.consb (.tt false) .nil)))))))
(.leaf (.consb (.tt false) .nil)))
(.br (.eq (.len (.lvar 11)) (.lit 0))
(.call 12 [.bool] .nil 12
(.leaf (.consb (.bvar 12) .nil)))
(.leaf (.consb (.tt false) .nil))))))))))
def jR:Spec:=⟨fun k=>match k with | 0=>cw | 1=>de | 2=>df | 3=>bH | 4=>cy | 5=>bI | 6=>cO | 7=>sF_holds | 8=>cf | 9=>bG | 10=>eP | 11=>cT | 12=>dH | 13=>iP | _=>fun _=>[],fun k=>match k with | 1=>dd | 2=>cN | 3=>bo | 8=>bQ | 9=>bF | 10=>dE | 11=>cn | _=>fun _=>True⟩
set_option maxRecDepth 100000 in
theorem rv:bw tys_MoN [gk 0,iJ 1,iK 2,dG 3,gl 4,dY 5,eN 6,sM_holds 7,fv 8,dF 9,lg 10,gj 11,iL 12,oy 13] [(38,Try.f38,[(999999,[]),(999998,[])],[]),(58,Try.f58,[(999999,[]),(999998,[])],[]),(59,Try.f59,[(999999,[]),(999998,[])],[]),(60,Try.f60,[(999999,[]),(999998,[])],[]),(61,Try.f61,[(999999,[]),(999998,[])],[]),(62,Try.f62,[(999999,[]),(999998,[])],[]),(63,Try.f63,[(999999,[]),(999998,[])],[]),(64,Try.f64,[(999999,[]),(999998,[])],[]),(36,Try.f36,[(999999,[]),(999998,[])],[]),(88,Try.f88,[(999999,[]),(999998,[])],[(5,[.top 15,.top 18,.top 16,.top 17,.top 8,.top 9,.top 19,.top 20,.top 21,.top 22,.top 23,.top 24,.top 25,.top 26,.top 27,.top 28,.top 29,.top 30,.top 31,.top 32]),(13,[.top 13,.top 14,.top 35,.top 10,.top 36,.top 37,.top 38,.top 39,.top 40,.top 11,.top 41,.top 42,.top 12,.top 44,.top 45,.top 46,.top 47,.top 43,.top 48,.top 49,.top 50,.top 51,.top 52,.top 53,.top 54,.top 55,.top 56,.top 57,.top 58,.top 59,.top 60,.top 61,.top 8,.top 9])]),(105,Try.f105,[(999999,[]),(999998,[])],[(3,[.tmpB 43,.top 15,.top 16,.top 17,.top 18,.top 19,.top 20,.top 21,.top 22,.top 23,.top 24,.top 25,.top 26,.top 27,.top 28,.top 29,.top 30,.top 31,.top 32,.top 33,.top 34,.top 35,.top 36,.top 37,.top 38,.top 39,.top 40,.top 41,.top 42])]),(78,Try.f78,[(999999,[]),(999998,[])],[]),(39,Try.f39,[(999999,[]),(999998,[])],[]),(57,Try.f57,[(999999,[]),(999998,[])],[]),(77,Try.f77,[(3,[.tmpI 21 .i64,.row 25,.row 26,.top 22,.top 23,.top 11,.top 24,.top 25,.top 26,.top 27,.top 28,.top 29,.top 30,.top 31,.top 32]),(999999,[]),(999998,[])],[]),(23,Try.f23,[(999999,[]),(999998,[])],[]),(35,Try.f35,[(999999,[]),(999998,[])],[]),(24,Try.f24,[(999999,[]),(999998,[])],[]),(17,Try.f17,[(999999,[]),(999998,[])],[]),(32,Try.f32,[(999999,[]),(999998,[])],[]),(37,Try.f37,[(2,[.celI 28 0 .i64,.cels 27 3 [some .u64,some .u64,some .u64,some .u64,some .u64,some .u64,some .u64,some .u64,some .u64,some .u64,some .u64,some .i64,some .u8,some .u8,some .u8,some .u8,some .u8,some .u8,some .u8,some .u8,some .u8,some .u8,some .u8,some .u8,some .u8,some .u8,some .u8,some .u8,some .u8,some .u8,some .u8,some .u8,some .u8,some .u8,some .u8,some .u8,some .u8,some .u8,some .u8,some .u8,some .u8,some .u8,some .u8,some .u8,some .u8,some .u8,some .u8,some .u8,some .u8,some .u8,some .u8,some .u8,some .u8,some .u8,some .u8,some .u8,some .u8,some .u8,some .u8,some .u8,some .u8,some .u8,some .u8,some .u8,some .u8,some .u8,some .u8,some .u8,some .u8,some .u8,some .u8,some .u8,some .u8,some .u8,some .u8,some .u8,some .i64,some .i64],.celI 15 0 .i64,.celI 16 0 .i64,.celV 27 81 [some .u64] 30,.celS 27 82 evKs 39,.row 25,.row 26,.row 9,.top 11,.top 12,.top 13,.top 14,.top 15,.top 16,.top 17,.top 18,.top 19,.top 20,.top 21,.top 22,.top 23,.top 24,.top 25,.top 26,.top 27,.top 28,.top 29,.top 30,.top 31,.top 32,.top 33]),(999999,[]),(999998,[])],[]),(9,Try.f9,[(999999,[]),(999998,[])],[])] [(24,[.tmpI 19 .i64,.top 151,.top 152,.top 153,.top 154,.top 157,.top 158,.top 159,.top 160,.top 161,.top 155,.top 156]),(999999,[]),(999998,[])] [(16,[.top 65,.top 66,.top 67,.top 68,.top 69,.top 70,.top 71,.top 72,.top 73,.top 74,.top 75,.top 76,.top 77,.top 78,.top 79,.top 80,.top 81,.top 82,.top 83,.top 84,.top 85,.top 86,.top 87,.top 88,.top 89,.top 90,.top 91,.top 92,.top 93]),(20,[.top 17,.top 18,.top 94,.top 95,.top 96,.top 97,.top 98,.top 99,.top 100,.top 101,.top 102,.top 103,.top 104,.top 105,.top 106,.top 107,.top 108,.top 109,.top 110,.top 111,.top 112,.top 113,.top 114,.top 115,.top 116,.top 117,.top 118,.top 119,.top 120,.top 121,.top 122,.top 123,.top 124,.top 125,.top 126,.top 127,.top 128,.top 129,.top 130,.top 131,.top 132,.top 133,.top 134,.top 135,.top 136,.top 137,.top 138,.top 139,.top 140,.top 141])] 200 Try.f8 [.agg nD,.one (.sl [some .u8] 5),.one (.sl [some .u64] 30),.one (.int .i64)] [.one .bool] false [.int .i64,.list [some .i8,some .i8,some .i8,some .i8,none,some .i8,some .i8,some .i64,some .i64],.list [some .u8],.list [some .u64],.int .i64] sT_lcounts:=⟨by kernel_rfl,by kernel_rfl,by kernel_rfl⟩
set_option maxRecDepth 100000 in
set_option maxHeartbeats 8000000 in
theorem rt (p:Prog) (hp:Prog.ok p) (cx:List (List Int)) (hcx:RowsIn [some .u8] cx) (an:List (List Int)) (han:RowsIn [some .u64] an) (fu:Int) (hfu:inK .i64 fu=true) (ρ:Env) (g:ai ρ 0 [.int .i64,.list [some .i8,some .i8,some .i8,some .i8,none,some .i8,some .i8,some .i64,some .i64],.list [some .u8],.list [some .u64],.int .i64]=[.z p.ctx,.l p.l,.l cx,.l an,.z fu]):sT_lcounts.asks jR (fun ρ e=>e.D ρ=gm [.z p.ctx,.l p.l,.l cx,.l an,.z fu]) ρ fun _ _=>False:=by
 have keepg:=g
 simp only[ai,varD,List.cons.injEq,Dt.z.injEq,Dt.l.injEq,b2i_eq_iff,Nat.reduceAdd,and_true] at g
 simp only[sT_lcounts,jR,kOut,cw,de,df,bH,cy,bI,cO,sF_holds,cf,bG,eP,cT,dH,iP,gf,iG,iH,dD,gg,dX,eM,sV_holds,fq,dC,lc,ge,ow,gm,jP,dd,cN,bo,bQ,bF,dE,cn,Tr.asks,aD,okDs,okD,eqs,E.I,E.B,E.L,E.R,E.D,E.vs,dI,dB,dL,varD,ai,List.getElem?_cons_zero,List.getElem?_cons_succ,List.cons_append,List.nil_append,Nat.zero_add,Nat.add_zero,Nat.reduceAdd,and_true,true_and,b2i_one,-eq_self,Ins.eta,Prog.eta,aa,Mem.eta,Mach.eta,g]
 obtain⟨k0_i0,k0_l1,k0_l2,k0_l3,k0_i4⟩:=g
 have hpl:=hp.2.len
 refine⟨fun c0=> ?_,fun c0=> ?_⟩
 intro e; (try simp only[e,Ins.eta,Prog.eta,aa,Mem.eta,Mach.eta,-eq_self]); clear e
 ·rfl
 refine⟨fun c1=> ?_,fun c1=> ?_⟩
 intro e; (try simp only[e,Ins.eta,Prog.eta,aa,Mem.eta,Mach.eta,-eq_self]); clear e
 ·rfl
 refine⟨fun c2=> ?_,fun c2=> ?_⟩
 intro e; (try simp only[e,Ins.eta,Prog.eta,aa,Mem.eta,Mach.eta,-eq_self]); clear e
 ·rfl
 refine⟨fun c3=> ?_,fun c3=> ?_⟩
 refine⟨fun c4=> ?_,fun c4=> ?_⟩
 refine⟨?_,?_⟩
 ·exact⟨⟨hp.2.len,hcx.len⟩,han.len⟩
 intro e; have⟨k0_i5,k0_i6,k0_l7,k0_l8,k0_i9,k0_i10⟩:=e; (try simp only[e,Ins.eta,Prog.eta,aa,Mem.eta,Mach.eta,-eq_self]); clear e
 refine⟨?_,?_⟩
 ·exact⟨⟨hp.2.len,hcx.len⟩,han.len⟩
 intro e; (try simp only[e,Ins.eta,Prog.eta,aa,Mem.eta,Mach.eta,-eq_self]); clear e
 refine⟨fun c5=> ?_,fun c5=> ?_⟩
 refine⟨fun c6=> ?_,fun c6=> ?_⟩
 refine⟨?_,?_⟩
 ·exact hpl
 intro e; have hbad:False:=(by have:=(kb (jg (eqI c5))).2.2.2; have:=of_decide_eq_true c4; omega); (try simp only[e,Ins.eta,Prog.eta,aa,Mem.eta,Mach.eta,-eq_self]); clear e
 refine⟨fun c7=> ?_,fun c7=> ?_⟩
 refine⟨fun c8=> ?_,fun c8=> ?_⟩
 refine⟨fun c9=> ?_,fun c9=> ?_⟩
 refine⟨fun _=>False,fun _=>0,hbad,?_⟩
 intro ρ1 ha1 _ hif
 refine⟨fun c10=> ?_,fun c10=> ?_⟩
 refine⟨fun c11=> ?_,fun c11=> ?_⟩
 ·exact hif.elim
 refine⟨fun c12=> ?_,fun c12=> ?_⟩
 ·exact hif.elim
 ·exact hif.elim
 refine⟨fun c13=> ?_,fun c13=> ?_⟩
 intro e; (try simp only[e,Ins.eta,Prog.eta,aa,Mem.eta,Mach.eta,-eq_self]); clear e
 ·exact hif.elim
 ·exact hif.elim
 refine⟨fun _=>False,fun _=>0,hbad,?_⟩
 intro ρ1 ha1 _ hif
 refine⟨fun c14=> ?_,fun c14=> ?_⟩
 refine⟨fun c15=> ?_,fun c15=> ?_⟩
 ·exact hif.elim
 refine⟨fun c16=> ?_,fun c16=> ?_⟩
 ·exact hif.elim
 ·exact hif.elim
 refine⟨fun c17=> ?_,fun c17=> ?_⟩
 intro e; (try simp only[e,Ins.eta,Prog.eta,aa,Mem.eta,Mach.eta,-eq_self]); clear e
 ·exact hif.elim
 ·exact hif.elim
 refine⟨fun _=>False,fun _=>0,hbad,?_⟩
 intro ρ1 ha1 _ hif
 refine⟨fun c18=> ?_,fun c18=> ?_⟩
 refine⟨fun c19=> ?_,fun c19=> ?_⟩
 ·exact hif.elim
 refine⟨fun c20=> ?_,fun c20=> ?_⟩
 ·exact hif.elim
 ·exact hif.elim
 refine⟨fun c21=> ?_,fun c21=> ?_⟩
 intro e; (try simp only[e,Ins.eta,Prog.eta,aa,Mem.eta,Mach.eta,-eq_self]); clear e
 ·exact hif.elim
 ·exact hif.elim
 refine⟨fun _=>False,fun _=>0,hbad,?_⟩
 intro ρ1 ha1 _ hif
 refine⟨fun c22=> ?_,fun c22=> ?_⟩
 refine⟨fun c23=> ?_,fun c23=> ?_⟩
 ·exact hif.elim
 refine⟨fun c24=> ?_,fun c24=> ?_⟩
 ·exact hif.elim
 ·exact hif.elim
 refine⟨fun c25=> ?_,fun c25=> ?_⟩
 intro e; (try simp only[e,Ins.eta,Prog.eta,aa,Mem.eta,Mach.eta,-eq_self]); clear e
 ·exact hif.elim
 ·exact hif.elim
 ·exact absurd (congrArg (fun z:Nat=>(z:Int)) (eW (jg (eqI c5)))) (neI c6)
 refine⟨fun c26=> ?_,fun c26=> ?_⟩
 intro e; (try simp only[e,Ins.eta,Prog.eta,aa,Mem.eta,Mach.eta,-eq_self]); clear e
 ·rfl
 ·exact absurd (congrArg (fun z:List (List Int)=>(z.length:Int)) (cp (cx:=cx) (an:=an) (fu:=fu) (p:=p) rfl (fun h=>neI c5 (by rw[mrun,if_neg (by simp[h])])))) (neI c26)
 intro e; (try simp only[e,Ins.eta,Prog.eta,aa,Mem.eta,Mach.eta,-eq_self]); clear e
 ·rfl
 refine⟨?_,?_⟩
 ·exact⟨⟨hp.2.len,hcx.len⟩,han.len⟩
 intro e; have⟨k0_i5,k0_i6,k0_l7,k0_l8,k0_i9,k0_i10⟩:=e; (try simp only[e,Ins.eta,Prog.eta,aa,Mem.eta,Mach.eta,-eq_self]); clear e
 refine⟨?_,?_⟩
 ·exact⟨⟨hp.2.len,hcx.len⟩,han.len⟩
 intro e; (try simp only[e,Ins.eta,Prog.eta,aa,Mem.eta,Mach.eta,-eq_self]); clear e
 refine⟨fun c27=> ?_,fun c27=> ?_⟩
 refine⟨fun c28=> ?_,fun c28=> ?_⟩
 refine⟨?_,?_⟩
 ·exact hpl
 intro e; have hF:=kb (jg (eqI c27)); (try simp only[e,Ins.eta,Prog.eta,aa,Mem.eta,Mach.eta,-eq_self]); clear e
 refine⟨fun c29=> ?_,fun c29=> ?_⟩
 refine⟨fun c30=> ?_,fun c30=> ?_⟩
 refine⟨fun c31=> ?_,fun c31=> ?_⟩
 refine⟨fun _=>False,fun _=>0,absurd (of_decide_eq_true c31) (by omega),?_⟩
 intro ρ1 ha1 _ hif
 refine⟨fun c32=> ?_,fun c32=> ?_⟩
 refine⟨fun c33=> ?_,fun c33=> ?_⟩
 ·exact hif.elim
 refine⟨fun c34=> ?_,fun c34=> ?_⟩
 ·exact hif.elim
 ·exact hif.elim
 refine⟨fun c35=> ?_,fun c35=> ?_⟩
 intro e; (try simp only[e,Ins.eta,Prog.eta,aa,Mem.eta,Mach.eta,-eq_self]); clear e
 ·exact hif.elim
 ·exact hif.elim
 refine⟨fun c36=> ?_,fun c36=> ?_⟩
 refine⟨fun _=>False,fun _=>0,absurd (of_decide_eq_true c36) (by omega),?_⟩
 intro ρ1 ha1 _ hif
 refine⟨fun c37=> ?_,fun c37=> ?_⟩
 refine⟨fun c38=> ?_,fun c38=> ?_⟩
 ·exact hif.elim
 refine⟨fun c39=> ?_,fun c39=> ?_⟩
 ·exact hif.elim
 ·exact hif.elim
 refine⟨fun c40=> ?_,fun c40=> ?_⟩
 intro e; (try simp only[e,Ins.eta,Prog.eta,aa,Mem.eta,Mach.eta,-eq_self]); clear e
 ·exact hif.elim
 ·exact hif.elim
 refine⟨fun c41=> ?_,fun c41=> ?_⟩
 refine⟨fun _=>False,fun _=>0,absurd (of_decide_eq_true c41) (by have:=jo hF.1; omega),?_⟩
 intro ρ1 ha1 _ hif
 refine⟨fun c42=> ?_,fun c42=> ?_⟩
 refine⟨fun c43=> ?_,fun c43=> ?_⟩
 ·exact hif.elim
 refine⟨fun c44=> ?_,fun c44=> ?_⟩
 ·exact hif.elim
 ·exact hif.elim
 refine⟨fun c45=> ?_,fun c45=> ?_⟩
 intro e; (try simp only[e,Ins.eta,Prog.eta,aa,Mem.eta,Mach.eta,-eq_self]); clear e
 ·exact hif.elim
 ·exact hif.elim
 refine⟨fun c46=> ?_,fun c46=> ?_⟩
 have hok:=hF.1
 have hop:=jg (eqI c27)
 have hf:0≤fu∧fu≤10000:=hF.2.2
 have hcx:cx.length≤256:=by have:=of_decide_eq_false c41; omega
 have hI:=bV hpl hok
 refine⟨CInv p cx an fu,fun ds=>(dI ds 0).toNat,CAt.init hf.1 hI.1.2.1 hop,?_⟩
 intro ρ1 ha1 hx1 hi1
 clear hx1
 have hC:CAt p cx an fu (ρ1.i 14) (ρ1.i 93) (ρ1.i 94) ⟨[ρ1.i 15,ρ1.i 16,ρ1.i 17,ρ1.i 18,ρ1.i 19,ρ1.i 20,ρ1.i 21,ρ1.i 22,ρ1.i 23,ρ1.i 24,ρ1.i 25],ρ1.i 26,ρ1.i 91,ρ1.l 95,ρ1.l 96,ρ1.l 97,ρ1.l 98⟩ (ρ1.l 99):=hi1
 clear hi1
 obtain⟨left,k1_i14⟩:∃z,ρ1.i 14=z:=⟨_,rfl⟩
 obtain⟨r0,k1_i15⟩:∃z,ρ1.i 15=z:=⟨_,rfl⟩
 obtain⟨r1,k1_i16⟩:∃z,ρ1.i 16=z:=⟨_,rfl⟩
 obtain⟨r2,k1_i17⟩:∃z,ρ1.i 17=z:=⟨_,rfl⟩
 obtain⟨r3,k1_i18⟩:∃z,ρ1.i 18=z:=⟨_,rfl⟩
 obtain⟨r4,k1_i19⟩:∃z,ρ1.i 19=z:=⟨_,rfl⟩
 obtain⟨r5,k1_i20⟩:∃z,ρ1.i 20=z:=⟨_,rfl⟩
 obtain⟨r6,k1_i21⟩:∃z,ρ1.i 21=z:=⟨_,rfl⟩
 obtain⟨r7,k1_i22⟩:∃z,ρ1.i 22=z:=⟨_,rfl⟩
 obtain⟨r8,k1_i23⟩:∃z,ρ1.i 23=z:=⟨_,rfl⟩
 obtain⟨r9,k1_i24⟩:∃z,ρ1.i 24=z:=⟨_,rfl⟩
 obtain⟨r10,k1_i25⟩:∃z,ρ1.i 25=z:=⟨_,rfl⟩
 obtain⟨st,k1_i26⟩:∃z,ρ1.i 26=z:=⟨_,rfl⟩
 obtain⟨pc,k1_i91⟩:∃z,ρ1.i 91=z:=⟨_,rfl⟩
 obtain⟨a1,k1_l95⟩:∃z,ρ1.l 95=z:=⟨_,rfl⟩
 obtain⟨t1,k1_l96⟩:∃z,ρ1.l 96=z:=⟨_,rfl⟩
 obtain⟨c1,k1_l97⟩:∃z,ρ1.l 97=z:=⟨_,rfl⟩
 obtain⟨f1,k1_l98⟩:∃z,ρ1.l 98=z:=⟨_,rfl⟩
 obtain⟨n1,k1_i93⟩:∃z,ρ1.i 93=z:=⟨_,rfl⟩
 obtain⟨last,k1_i94⟩:∃z,ρ1.i 94=z:=⟨_,rfl⟩
 obtain⟨v1,k1_l99⟩:∃z,ρ1.l 99=z:=⟨_,rfl⟩
 simp only[k1_i14,k1_i15,k1_i16,k1_i17,k1_i18,k1_i19,k1_i20,k1_i21,k1_i22,k1_i23,k1_i24,k1_i25,k1_i26,k1_i91,k1_l95,k1_l96,k1_l97,k1_l98,k1_i93,k1_i94,k1_l99] at hC
 have hR:=hC.run
 have k1_l1:=kL ha1 k0_l1
 have k1_i4:=kI ha1 k0_i4
 have k1_i9:=kI ha1 k0_i9
 have h256:c1.length≤256:=by have:=hR.cxl; exact Nat.le_trans (Nat.le_of_eq this) hcx
 have hfit:=vz h256 hR.fm
 have q0:0≤pc:=hR.pc0
 have q1:pc<(p.l.length:Int):=hR.pc1
 have q2:f1.length=64:=hR.fm
 have q4:(t1.length:Int)+left≤fu:=hR.tr
 have q5:=hR.lo
 have q6:=hR.hi
 have q7:=hC.lst
 have q8:=hC.vl
 simp only[k1_l1,k1_i4,k1_i9,k1_i14,k1_i15,k1_i16,k1_i17,k1_i18,k1_i19,k1_i20,k1_i21,k1_i22,k1_i23,k1_i24,k1_i25,k1_i26,k1_i91,k1_l95,k1_l96,k1_l97,k1_l98,k1_i93,k1_i94,k1_l99,aa,-eq_self]
 refine⟨fun c47=> ?_,fun c47=> ?_⟩
 refine⟨fun ds=>ds=[],?_,?_⟩
 refine⟨fun c48=> ?_,fun c48=> ?_⟩
 ·exact absurd (of_decide_eq_true c48) (by omega)
 refine⟨fun c49=> ?_,fun c49=> ?_⟩
 refine⟨fun c50=> ?_,fun c50=> ?_⟩
 refine⟨fun c51=> ?_,fun c51=> ?_⟩
 refine⟨fun c52=> ?_,fun c52=> ?_⟩
 refine⟨fun c53=> ?_,fun c53=> ?_⟩
 ·rfl
 ·have y:=hC.fst (eqI c50)
  exact absurd (congrArg (fun m:Ms=>m.rg.getD 10 0) y) (neI c53)
 ·have y:=hC.fst (eqI c50)
  exact absurd (congrArg (fun m:Ms=>m.rg.getD 1 0) y) (neI c52)
 ·have y:=hC.fst (eqI c50)
  exact absurd (congrArg Ms.pc y) (neI c51)
 ·rfl
 ·exact absurd q1 (of_decide_eq_false c49)
 intro ρ2 ha2 _ _
 have k2_l1:=kL ha2 k1_l1
 have k2_i4:=kI ha2 k1_i4
 have k2_i9:=kI ha2 k1_i9
 have k2_i14:=kI ha2 k1_i14
 have k2_i15:=kI ha2 k1_i15
 have k2_i16:=kI ha2 k1_i16
 have k2_i17:=kI ha2 k1_i17
 have k2_i18:=kI ha2 k1_i18
 have k2_i19:=kI ha2 k1_i19
 have k2_i20:=kI ha2 k1_i20
 have k2_i21:=kI ha2 k1_i21
 have k2_i22:=kI ha2 k1_i22
 have k2_i23:=kI ha2 k1_i23
 have k2_i24:=kI ha2 k1_i24
 have k2_i25:=kI ha2 k1_i25
 have k2_i26:=kI ha2 k1_i26
 have k2_i91:=kI ha2 k1_i91
 have k2_l95:=kL ha2 k1_l95
 have k2_l96:=kL ha2 k1_l96
 have k2_l97:=kL ha2 k1_l97
 have k2_l98:=kL ha2 k1_l98
 have k2_i93:=kI ha2 k1_i93
 have k2_i94:=kI ha2 k1_i94
 have k2_l99:=kL ha2 k1_l99
 simp only[k2_l1,k2_i4,k2_i9,k2_i14,k2_i15,k2_i16,k2_i17,k2_i18,k2_i19,k2_i20,k2_i21,k2_i22,k2_i23,k2_i24,k2_i25,k2_i26,k2_i91,k2_l95,k2_l96,k2_l97,k2_l98,k2_i93,k2_i94,k2_l99,aa,-eq_self]
 refine⟨fun ds=>ds=[],?_,?_⟩
 refine⟨fun c54=> ?_,fun c54=> ?_⟩
 ·rfl
 refine⟨fun c55=> ?_,fun c55=> ?_⟩
 intro e; (try simp only[e,Ins.eta,Prog.eta,aa,Mem.eta,Mach.eta,-eq_self]); clear e
 refine⟨fun c56=> ?_,fun c56=> ?_⟩
 refine⟨fun c57=> ?_,fun c57=> ?_⟩
 refine⟨fun c58=> ?_,fun c58=> ?_⟩
 refine⟨fun c59=> ?_,fun c59=> ?_⟩
 ·have y:=hC.nx (by have:=of_decide_eq_false c54; omega)
  exact absurd (eqI c59) y.2.2
 ·rfl
 ·have y:=hC.nx (by have:=of_decide_eq_false c54; omega)
  exact absurd (y.2.1 (eqI c57)) (neI c58)
 refine⟨fun c60=> ?_,fun c60=> ?_⟩
 ·have y:=hC.nx (by have:=of_decide_eq_false c54; omega)
  exact absurd (eqI c60) y.2.2
 ·rfl
 refine⟨fun c61=> ?_,fun c61=> ?_⟩
 refine⟨fun c62=> ?_,fun c62=> ?_⟩
 refine⟨fun c63=> ?_,fun c63=> ?_⟩
 refine⟨fun c64=> ?_,fun c64=> ?_⟩
 ·have y:=hC.nx (by have:=of_decide_eq_false c54; omega)
  exact absurd (eqI c64) y.2.2
 ·rfl
 refine⟨fun c65=> ?_,fun c65=> ?_⟩
 ·have y:=hC.nx (by have:=of_decide_eq_false c54; omega)
  exact absurd (eqI c65) y.2.2
 ·rfl
 ·have y:=hC.nx (by have:=of_decide_eq_false c54; omega)
  exact y.1.elim (fun h=>absurd h (neI c56)) (fun h=>absurd h.2 (neI c62))
 ·have y:=hC.nx (by have:=of_decide_eq_false c54; omega)
  exact y.1.elim (fun h=>absurd h (neI c56)) (fun h=>Bool.noConfusion (h.1.symm.trans c61))
 ·exact absurd q7 (of_decide_eq_false c55)
 intro ρ3 ha3 _ _
 have k3_l1:=kL ha3 k2_l1
 have k3_i4:=kI ha3 k2_i4
 have k3_i9:=kI ha3 k2_i9
 have k3_i14:=kI ha3 k2_i14
 have k3_i15:=kI ha3 k2_i15
 have k3_i16:=kI ha3 k2_i16
 have k3_i17:=kI ha3 k2_i17
 have k3_i18:=kI ha3 k2_i18
 have k3_i19:=kI ha3 k2_i19
 have k3_i20:=kI ha3 k2_i20
 have k3_i21:=kI ha3 k2_i21
 have k3_i22:=kI ha3 k2_i22
 have k3_i23:=kI ha3 k2_i23
 have k3_i24:=kI ha3 k2_i24
 have k3_i25:=kI ha3 k2_i25
 have k3_i26:=kI ha3 k2_i26
 have k3_i91:=kI ha3 k2_i91
 have k3_l95:=kL ha3 k2_l95
 have k3_l96:=kL ha3 k2_l96
 have k3_l97:=kL ha3 k2_l97
 have k3_l98:=kL ha3 k2_l98
 have k3_i93:=kI ha3 k2_i93
 have k3_i94:=kI ha3 k2_i94
 have k3_l99:=kL ha3 k2_l99
 simp only[k3_l1,k3_i4,k3_i9,k3_i14,k3_i15,k3_i16,k3_i17,k3_i18,k3_i19,k3_i20,k3_i21,k3_i22,k3_i23,k3_i24,k3_i25,k3_i26,k3_i91,k3_l95,k3_l96,k3_l97,k3_l98,k3_i93,k3_i94,k3_l99,aa,-eq_self]
 refine⟨fun c66=> ?_,fun c66=> ?_⟩
 ·exact absurd (of_decide_eq_true c66) (by omega)
 refine⟨fun c67=> ?_,fun c67=> ?_⟩
 refine⟨fun c68=> ?_,fun c68=> ?_⟩
 refine⟨?_,?_⟩
 ·exact am hpl hok hR.pc0 hR.pc1
 intro e; (try simp only[e,Ins.eta,Prog.eta,aa,Mem.eta,Mach.eta,-eq_self]); clear e
 refine⟨fun c69=> ?_,fun c69=> ?_⟩
 refine⟨fun c70=> ?_,fun c70=> ?_⟩
 refine⟨fun c71=> ?_,fun c71=> ?_⟩
 ·have hmay:=am hpl hok q0 q1
  have hd:=aK hmay
  exact absurd (of_decide_eq_true c71) (by omega)
 refine⟨fun c72=> ?_,fun c72=> ?_⟩
 refine⟨?_,?_⟩
 ·exact fun _=>(by have hd:=bD (am hpl hok hR.pc0 hR.pc1); exact⟨hd.2.2.1,hd.2.2.2.1⟩)
 intro e; (try simp only[e,Ins.eta,Prog.eta,aa,Mem.eta,Mach.eta,-eq_self]); clear e
 intro e; (try simp only[e,Ins.eta,Prog.eta,aa,Mem.eta,Mach.eta,-eq_self]); clear e
 ·have hmay:=am hpl hok q0 q1
  have hd:=aK hmay
  have hk:(ae p.l pc).k=0:=eqI c70
  have hw:opI .andNot .i64 (aj (ae p.l pc)) st=0:=eqI c69
  exact CAt.go hC hpl hok hf.2 (of_decide_eq_true c47) (dt hw (.inl hk)) (go11 (zF hk) hd.1 hd.2.1) rfl rfl rfl rfl
 ·have hmay:=am hpl hok q0 q1
  have hd:=aK hmay
  exact absurd (of_decide_eq_false c72) (by omega)
 refine⟨fun c73=> ?_,fun c73=> ?_⟩
 refine⟨fun c74=> ?_,fun c74=> ?_⟩
 ·have hmay:=am hpl hok q0 q1
  have hd:=aK hmay
  exact absurd (of_decide_eq_true c74) (by omega)
 refine⟨fun c75=> ?_,fun c75=> ?_⟩
 intro e; have k3_i101:ρ3.i 101=IntKind.u64.wrap (gt p.l pc 7):=e.trans (by simp only[k3_l1,k3_i91]); (try simp only[e,Ins.eta,Prog.eta,aa,Mem.eta,Mach.eta,-eq_self]); clear e
 refine⟨?_,?_⟩
 ·exact hfit
 intro e; (try simp only[e,Ins.eta,Prog.eta,aa,Mem.eta,Mach.eta,-eq_self]); clear e
 refine⟨fun c76=> ?_,fun c76=> ?_⟩
 refine⟨fun c77=> ?_,fun c77=> ?_⟩
 ·have hmay:=am hpl hok q0 q1
  have hd:=aK hmay
  exact absurd (of_decide_eq_true c77) (by omega)
 refine⟨fun c78=> ?_,fun c78=> ?_⟩
 ·have hmay:=am hpl hok q0 q1
  have hd:=aK hmay
  have hk:(ae p.l pc).k=1:=eqI c73
  have hw:opI .andNot .i64 (aj (ae p.l pc)) st=0:=eqI c69
  have h16:=eqI c76
  exact CAt.go hC hpl hok hf.2 (of_decide_eq_true c47) (oU hw hk h16) (go11 (zE hk) hd.1 hd.2.1) rfl rfl rfl rfl
 ·have hmay:=am hpl hok q0 q1
  have hd:=aK hmay
  exact absurd (of_decide_eq_false c78) (by omega)
 have hk:(ae p.l pc).k=1:=eqI c73
 have hw:opI .andNot .i64 (aj (ae p.l pc)) st=0:=eqI c69
 have h16:=neI c76
 have hE:=CAt.end hop hC hpl hok hf.2 (of_decide_eq_true c47) (oT hw hk h16) (by decide)
 refine⟨fun ds=>∃k:Nat,ds=[.z (k:Int)]∧k≤v1.length,fun ds=>v1.length-(dI ds 0).toNat,⟨0,rfl,Nat.zero_le _⟩,?_⟩
 intro ρ4 ha4 _ hi4
 obtain⟨k,hds,hk9⟩:=hi4
 simp only[List.cons.injEq,Dt.z.injEq,Dt.l.injEq,b2i_eq_iff,and_true] at hds
 have k4_i104:=hds
 have k4_l99:=kL ha4 k3_l99
 have k4_i91:=kI ha4 k3_i91
 have k4_i93:=kI ha4 k3_i93
 have k4_i4:=kI ha4 k3_i4
 have k4_i9:=kI ha4 k3_i9
 simp only[k4_l99,k4_i91,k4_i93,k4_i4,k4_i9,k4_i104,aa,-eq_self]
 refine⟨fun c79=> ?_,fun c79=> ?_⟩
 refine⟨fun c80=> ?_,fun c80=> ?_⟩
 ·exact absurd (of_decide_eq_true c80) (by omega)
 refine⟨fun c81=> ?_,fun c81=> ?_⟩
 ·have hk2:k<v1.length:=Int.ofNat_lt.1 (of_decide_eq_true c79)
  rw[addO hk2 (by rw[q8]; exact hpl)]
  exact⟨⟨k+1,rfl,hk2⟩,by show v1.length-(((k+1:Nat):Int)).toNat<v1.length-((k:Int)).toNat; omega⟩
 ·exact absurd (hE.z (k:Int)) (neI c81)
 refine⟨fun c82=> ?_,fun c82=> ?_⟩
 intro e; (try simp only[e,Ins.eta,Prog.eta,aa,Mem.eta,Mach.eta,-eq_self]); clear e
 ·rfl
 ·exact absurd hE.nn (neI c82)
 ·have hmay:=am hpl hok q0 q1
  have hd:=aK hmay
  exact absurd (of_decide_eq_false c75) (by omega)
 refine⟨fun c83=> ?_,fun c83=> ?_⟩
 refine⟨fun c84=> ?_,fun c84=> ?_⟩
 ·have hmay:=am hpl hok q0 q1
  have hd:=aK hmay
  exact absurd (of_decide_eq_true c84) (by omega)
 refine⟨fun c85=> ?_,fun c85=> ?_⟩
 intro e; have k3_i101:ρ3.i 101=IntKind.u64.wrap (gt p.l pc 7):=e.trans (by simp only[k3_l1,k3_i91]); (try simp only[e,Ins.eta,Prog.eta,aa,Mem.eta,Mach.eta,-eq_self]); clear e
 refine⟨fun c86=> ?_,fun c86=> ?_⟩
 ·have hmay:=am hpl hok q0 q1
  have hd:=aK hmay
  exact absurd (of_decide_eq_true c86) (by omega)
 refine⟨fun c87=> ?_,fun c87=> ?_⟩
 have hmay:=am hpl hok q0 q1
 have hd:=aK hmay
 have hk:(ae p.l pc).k=2:=eqI c83
 obtain⟨a,ea⟩:∃a,opI .add .u64 (([r0,r1,r2,r3,r4,r5,r6,r7,r8,r9,r10]:List Int).getD (gt p.l pc 5).toNat 0) (IntKind.u64.wrap (gt p.l pc 7))=a:=⟨_,rfl⟩
 obtain⟨n,en⟩:∃n,IntKind.i64.wrap (gt p.l pc 3)=n:=⟨_,rfl⟩
 obtain⟨v,ev⟩:∃v,([r0,r1,r2,r3,r4,r5,r6,r7,r8,r9,r10]:List Int).getD (gt p.l pc 6).toNat 0=v:=⟨_,rfl⟩
 have hs:bS n=true:=en▸gc hmay (.inr hk)
 have ha:inK .u64 a=true:=ea▸fJ _ _
 have hn3:=iD hs
 have h1:1≤n:=by omega
 have h8:n≤8:=by omega
 simp only[k3_l1,k3_i14,k3_i15,k3_i16,k3_i17,k3_i18,k3_i19,k3_i20,k3_i21,k3_i22,k3_i23,k3_i24,k3_i25,k3_i26,k3_i91,k3_l95,k3_l96,k3_l97,k3_l98,k3_i9,k3_i4,k3_i93,k3_l99,k3_i101,ea,en,ev,-eq_self]
 refine⟨fun ds=>ds=[],?_,?_⟩
 refine⟨fun c88=> ?_,fun c88=> ?_⟩
 ·rfl
 refine⟨fun c89=> ?_,fun c89=> ?_⟩
 ·rfl
 refine⟨fun c90=> ?_,fun c90=> ?_⟩
 ·rfl
 refine⟨fun c91=> ?_,fun c91=> ?_⟩
 ·rfl
 refine⟨fun _=>False,fun _=>0,absurd hs (by simp[bS,neI c88,neI c89,neI c90,neI c91]),?_⟩
 intro ρ4 ha4 _ hif
 refine⟨fun c92=> ?_,fun c92=> ?_⟩
 refine⟨fun c93=> ?_,fun c93=> ?_⟩
 ·exact hif.elim
 ·exact hif.elim
 refine⟨fun c94=> ?_,fun c94=> ?_⟩
 refine⟨fun c95=> ?_,fun c95=> ?_⟩
 refine⟨fun _=>False,fun _=>0,hif,?_⟩
 intro ρ1 ha1 _ hif
 refine⟨fun c96=> ?_,fun c96=> ?_⟩
 refine⟨fun c97=> ?_,fun c97=> ?_⟩
 ·exact hif.elim
 refine⟨fun c98=> ?_,fun c98=> ?_⟩
 ·exact hif.elim
 ·exact hif.elim
 refine⟨fun c99=> ?_,fun c99=> ?_⟩
 intro e; (try simp only[e,Ins.eta,Prog.eta,aa,Mem.eta,Mach.eta,-eq_self]); clear e
 ·exact hif.elim
 ·exact hif.elim
 ·exact hif.elim
 ·exact hif.elim
 intro ρ4 ha4 _ _
 have k4_l1:=kL ha4 k3_l1
 have k4_i14:=kI ha4 k3_i14
 have k4_i15:=kI ha4 k3_i15
 have k4_i16:=kI ha4 k3_i16
 have k4_i17:=kI ha4 k3_i17
 have k4_i18:=kI ha4 k3_i18
 have k4_i19:=kI ha4 k3_i19
 have k4_i20:=kI ha4 k3_i20
 have k4_i21:=kI ha4 k3_i21
 have k4_i22:=kI ha4 k3_i22
 have k4_i23:=kI ha4 k3_i23
 have k4_i24:=kI ha4 k3_i24
 have k4_i25:=kI ha4 k3_i25
 have k4_i26:=kI ha4 k3_i26
 have k4_i91:=kI ha4 k3_i91
 have k4_l95:=kL ha4 k3_l95
 have k4_l96:=kL ha4 k3_l96
 have k4_l97:=kL ha4 k3_l97
 have k4_l98:=kL ha4 k3_l98
 have k4_i9:=kI ha4 k3_i9
 have k4_i4:=kI ha4 k3_i4
 have k4_i93:=kI ha4 k3_i93
 have k4_l99:=kL ha4 k3_l99
 have k4_i101:=kI ha4 k3_i101
 simp only[k4_l1,k4_i14,k4_i15,k4_i16,k4_i17,k4_i18,k4_i19,k4_i20,k4_i21,k4_i22,k4_i23,k4_i24,k4_i25,k4_i26,k4_i91,k4_l95,k4_l96,k4_l97,k4_l98,k4_i9,k4_i4,k4_i93,k4_l99,k4_i101,ea,en,ev,-eq_self]
 refine⟨fun ds=>ds=[],?_,?_⟩
 refine⟨fun ds=>ds=[.z (b2i (!inr 1048576 [] a n))],?_,?_⟩
 refine⟨fun c100=> ?_,fun c100=> ?_⟩
 ·exact congrArg (fun z=>[Dt.z (b2i z)]) (cd c100)
 refine⟨fun c101=> ?_,fun c101=> ?_⟩
 ·exact congrArg (fun z=>[Dt.z (b2i z)]) (bm (l:=[]) ha (by decide) h1 c100 (by decide) c101)
 ·rw[wrU (a:=n) (by omega) (by omega)]
  exact congrArg (fun z=>[Dt.z (b2i z)]) (aU (l:=[]) ha (by decide) h1 h8 c100 (by decide) c101)
 intro ρ5 ha5 _ hi5
 simp only[List.cons.injEq,Dt.z.injEq,Dt.l.injEq,b2i_eq_iff,and_true] at hi5
 have k5_b102:=hi5
 have k5_l1:=kL ha5 k4_l1
 have k5_i14:=kI ha5 k4_i14
 have k5_i15:=kI ha5 k4_i15
 have k5_i16:=kI ha5 k4_i16
 have k5_i17:=kI ha5 k4_i17
 have k5_i18:=kI ha5 k4_i18
 have k5_i19:=kI ha5 k4_i19
 have k5_i20:=kI ha5 k4_i20
 have k5_i21:=kI ha5 k4_i21
 have k5_i22:=kI ha5 k4_i22
 have k5_i23:=kI ha5 k4_i23
 have k5_i24:=kI ha5 k4_i24
 have k5_i25:=kI ha5 k4_i25
 have k5_i26:=kI ha5 k4_i26
 have k5_i91:=kI ha5 k4_i91
 have k5_l95:=kL ha5 k4_l95
 have k5_l96:=kL ha5 k4_l96
 have k5_l97:=kL ha5 k4_l97
 have k5_l98:=kL ha5 k4_l98
 have k5_i9:=kI ha5 k4_i9
 have k5_i4:=kI ha5 k4_i4
 have k5_i93:=kI ha5 k4_i93
 have k5_l99:=kL ha5 k4_l99
 have k5_i101:=kI ha5 k4_i101
 simp only[k5_l1,k5_i14,k5_i15,k5_i16,k5_i17,k5_i18,k5_i19,k5_i20,k5_i21,k5_i22,k5_i23,k5_i24,k5_i25,k5_i26,k5_i91,k5_l95,k5_l96,k5_l97,k5_l98,k5_i9,k5_i4,k5_i93,k5_l99,k5_i101,k5_b102,ea,en,ev,-eq_self]
 refine⟨fun c102=> ?_,fun c102=> ?_⟩
 ·rfl
 refine⟨fun c103=> ?_,fun c103=> ?_⟩
 ·exact absurd c102 (by simp[bv h1])
 refine⟨fun c104=> ?_,fun c104=> ?_⟩
 ·exact absurd c102 (by simp[bv h1])
 refine⟨fun c105=> ?_,fun c105=> ?_⟩
 ·exact absurd c102 (by simp[bv h1])
 ·exact absurd c102 (by simp[bv h1])
 intro ρ5 ha5 _ _
 have k5_l1:=kL ha5 k4_l1
 have k5_i14:=kI ha5 k4_i14
 have k5_i15:=kI ha5 k4_i15
 have k5_i16:=kI ha5 k4_i16
 have k5_i17:=kI ha5 k4_i17
 have k5_i18:=kI ha5 k4_i18
 have k5_i19:=kI ha5 k4_i19
 have k5_i20:=kI ha5 k4_i20
 have k5_i21:=kI ha5 k4_i21
 have k5_i22:=kI ha5 k4_i22
 have k5_i23:=kI ha5 k4_i23
 have k5_i24:=kI ha5 k4_i24
 have k5_i25:=kI ha5 k4_i25
 have k5_i26:=kI ha5 k4_i26
 have k5_i91:=kI ha5 k4_i91
 have k5_l95:=kL ha5 k4_l95
 have k5_l96:=kL ha5 k4_l96
 have k5_l97:=kL ha5 k4_l97
 have k5_l98:=kL ha5 k4_l98
 have k5_i9:=kI ha5 k4_i9
 have k5_i4:=kI ha5 k4_i4
 have k5_i93:=kI ha5 k4_i93
 have k5_l99:=kL ha5 k4_l99
 have k5_i101:=kI ha5 k4_i101
 simp only[k5_l1,k5_i14,k5_i15,k5_i16,k5_i17,k5_i18,k5_i19,k5_i20,k5_i21,k5_i22,k5_i23,k5_i24,k5_i25,k5_i26,k5_i91,k5_l95,k5_l96,k5_l97,k5_l98,k5_i9,k5_i4,k5_i93,k5_l99,k5_i101,ea,en,ev,-eq_self]
 refine⟨fun ds=>ds=[]∧inr 2097152 c1 a n=false,?_,?_⟩
 refine⟨fun ds=>ds=[.z (b2i (!inr 2097152 c1 a n))],?_,?_⟩
 refine⟨fun c106=> ?_,fun c106=> ?_⟩
 ·exact congrArg (fun z=>[Dt.z (b2i z)]) (cd c106)
 refine⟨fun c107=> ?_,fun c107=> ?_⟩
 ·exact congrArg (fun z=>[Dt.z (b2i z)]) (bm (l:=c1) ha (by decide) h1 c106 (Nat.le_trans h256 (by decide)) c107)
 ·rw[wrU (a:=n) (by omega) (by omega)]
  exact congrArg (fun z=>[Dt.z (b2i z)]) (aU (l:=c1) ha (by decide) h1 h8 c106 (Nat.le_trans h256 (by decide)) c107)
 intro ρ6 ha6 _ hi6
 simp only[List.cons.injEq,Dt.z.injEq,Dt.l.injEq,b2i_eq_iff,and_true] at hi6
 have k6_b102:=hi6
 have k6_l1:=kL ha6 k5_l1
 have k6_i14:=kI ha6 k5_i14
 have k6_i15:=kI ha6 k5_i15
 have k6_i16:=kI ha6 k5_i16
 have k6_i17:=kI ha6 k5_i17
 have k6_i18:=kI ha6 k5_i18
 have k6_i19:=kI ha6 k5_i19
 have k6_i20:=kI ha6 k5_i20
 have k6_i21:=kI ha6 k5_i21
 have k6_i22:=kI ha6 k5_i22
 have k6_i23:=kI ha6 k5_i23
 have k6_i24:=kI ha6 k5_i24
 have k6_i25:=kI ha6 k5_i25
 have k6_i26:=kI ha6 k5_i26
 have k6_i91:=kI ha6 k5_i91
 have k6_l95:=kL ha6 k5_l95
 have k6_l96:=kL ha6 k5_l96
 have k6_l97:=kL ha6 k5_l97
 have k6_l98:=kL ha6 k5_l98
 have k6_i9:=kI ha6 k5_i9
 have k6_i4:=kI ha6 k5_i4
 have k6_i93:=kI ha6 k5_i93
 have k6_l99:=kL ha6 k5_l99
 have k6_i101:=kI ha6 k5_i101
 simp only[k6_l1,k6_i14,k6_i15,k6_i16,k6_i17,k6_i18,k6_i19,k6_i20,k6_i21,k6_i22,k6_i23,k6_i24,k6_i25,k6_i26,k6_i91,k6_l95,k6_l96,k6_l97,k6_l98,k6_i9,k6_i4,k6_i93,k6_l99,k6_i101,k6_b102,ea,en,ev,-eq_self]
 refine⟨fun c108=> ?_,fun c108=> ?_⟩
 ·exact⟨rfl,by simpa using c108⟩
 refine⟨fun c109=> ?_,fun c109=> ?_⟩
 ·have fr:inr 2097152 c1 a n=true:=by simpa using c108
  have W:=Win.of fr ha (by decide) (Nat.le_trans h256 (by decide)) h1 h8
  have w1:=W.lo; have w2:=W.hi; have w3:=W.len
  simp only[W.sub,W.cv,W.add] at c109
  exact absurd (of_decide_eq_true c109) (by omega)
 refine⟨fun c110=> ?_,fun c110=> ?_⟩
 ·have fr:inr 2097152 c1 a n=true:=by simpa using c108
  have W:=Win.of fr ha (by decide) (Nat.le_trans h256 (by decide)) h1 h8
  have w1:=W.lo; have w2:=W.hi; have w3:=W.len
  simp only[W.sub,W.cv,W.add] at c110
  exact absurd (of_decide_eq_true c110) (by omega)
 refine⟨fun c111=> ?_,fun c111=> ?_⟩
 ·have fr:inr 2097152 c1 a n=true:=by simpa using c108
  have W:=Win.of fr ha (by decide) (Nat.le_trans h256 (by decide)) h1 h8
  have w1:=W.lo; have w2:=W.hi; have w3:=W.len
  simp only[W.sub,W.cv,W.add] at c111
  exact absurd (of_decide_eq_true c111) (by omega)
 have fr:inr 2097152 c1 a n=true:=by simpa using c108
 have W:=Win.of fr ha (by decide) (Nat.le_trans h256 (by decide)) h1 h8
 refine⟨fun ds=>∃k:Nat,ds=[.z (k:Int),.l (putL c1 (a-2097152).toNat v k),.l f1]∧k≤n.toNat,fun ds=>n.toNat-(dI ds 0).toNat,⟨0,rfl,Nat.zero_le _⟩,?_⟩
 intro ρ7 ha7 _ hi7
 obtain⟨k,hds,hk2⟩:=hi7
 simp only[List.cons.injEq,Dt.z.injEq,Dt.l.injEq,b2i_eq_iff,and_true] at hds
 obtain⟨k7_i103,k7_l104,k7_l105⟩:=hds
 have k7_l1:=kL ha7 k6_l1
 have k7_i14:=kI ha7 k6_i14
 have k7_i15:=kI ha7 k6_i15
 have k7_i16:=kI ha7 k6_i16
 have k7_i17:=kI ha7 k6_i17
 have k7_i18:=kI ha7 k6_i18
 have k7_i19:=kI ha7 k6_i19
 have k7_i20:=kI ha7 k6_i20
 have k7_i21:=kI ha7 k6_i21
 have k7_i22:=kI ha7 k6_i22
 have k7_i23:=kI ha7 k6_i23
 have k7_i24:=kI ha7 k6_i24
 have k7_i25:=kI ha7 k6_i25
 have k7_i26:=kI ha7 k6_i26
 have k7_i91:=kI ha7 k6_i91
 have k7_l95:=kL ha7 k6_l95
 have k7_l96:=kL ha7 k6_l96
 have k7_l97:=kL ha7 k6_l97
 have k7_l98:=kL ha7 k6_l98
 have k7_i9:=kI ha7 k6_i9
 have k7_i4:=kI ha7 k6_i4
 have k7_i93:=kI ha7 k6_i93
 have k7_l99:=kL ha7 k6_l99
 have k7_i101:=kI ha7 k6_i101
 simp only[k7_l1,k7_i14,k7_i15,k7_i16,k7_i17,k7_i18,k7_i19,k7_i20,k7_i21,k7_i22,k7_i23,k7_i24,k7_i25,k7_i26,k7_i91,k7_l95,k7_l96,k7_l97,k7_l98,k7_i9,k7_i4,k7_i93,k7_l99,k7_i101,k7_i103,k7_l104,k7_l105,ea,en,ev,W.sub,W.cv,W.add,W.win,W.len,-eq_self]
 refine⟨fun c112=> ?_,fun c112=> ?_⟩
 refine⟨fun c113=> ?_,fun c113=> ?_⟩
 ·have hk3:k<n.toNat:=Int.ofNat_lt.1 (of_decide_eq_true c112)
  have w1:=W.lo; have w2:=W.hi; have w3:=W.len
  rw[mulE (by omega)] at c113
  exact absurd (of_decide_eq_true c113) (by omega)
 refine⟨fun c114=> ?_,fun c114=> ?_⟩
 ·have hk3:k<n.toNat:=Int.ofNat_lt.1 (of_decide_eq_true c112)
  have w1:=W.lo; have w2:=W.hi; have w3:=W.len
  rw[ap] at c114
  exact absurd (of_decide_eq_true c114) (by omega)
 refine⟨fun c115=> ?_,fun c115=> ?_⟩
 ·have hk3:k<n.toNat:=Int.ofNat_lt.1 (of_decide_eq_true c112)
  have w1:=W.lo; have w2:=W.hi; have w3:=W.len
  exact absurd (of_decide_eq_true c115) (by omega)
 refine⟨fun c116=> ?_,fun c116=> ?_⟩
 refine⟨fun c117=> ?_,fun c117=> ?_⟩
 ·have hk3:k<n.toNat:=Int.ofNat_lt.1 (of_decide_eq_true c112)
  have w1:=W.lo; have w2:=W.hi; have w3:=W.len
  rw[(W.byte (Nat.le_trans h256 (by decide)) hk3).1] at c117
  exact absurd (of_decide_eq_true c117) (by omega)
 refine⟨fun c118=> ?_,fun c118=> ?_⟩
 ·have hk3:k<n.toNat:=Int.ofNat_lt.1 (of_decide_eq_true c112)
  rw[putS W (Nat.le_trans h256 (by decide)) v hk3,addO hk3 (Nat.le_trans (by omega:n.toNat≤8) (by decide))]
  exact⟨⟨k+1,rfl,hk3⟩,by show n.toNat-(((k+1:Nat):Int)).toNat<n.toNat-((k:Int)).toNat; omega⟩
 ·have hk3:k<n.toNat:=Int.ofNat_lt.1 (of_decide_eq_true c112)
  have w1:=W.lo; have w2:=W.hi; have w3:=W.len
  rw[(W.byte (Nat.le_trans h256 (by decide)) hk3).1,ap] at c118
  exact absurd (of_decide_eq_false c118) (by omega)
 ·have hk3:k<n.toNat:=Int.ofNat_lt.1 (of_decide_eq_true c112)
  have w1:=W.lo; have w2:=W.hi; have w3:=W.len
  simp only[List.length_drop,List.length_take,ap] at c116
  exact absurd (of_decide_eq_false c116) (by omega)
 refine⟨fun c119=> ?_,fun c119=> ?_⟩
 refine⟨fun c120=> ?_,fun c120=> ?_⟩
 ·have hk:(ae p.l pc).k=2:=eqI c83
  have hw:opI .andNot .i64 (aj (ae p.l pc)) st=0:=eqI c69
  obtain rfl:k=n.toNat:=by have:=of_decide_eq_false c112; omega
  have g2:inr 3145728 f1 a n=false:=by
   have:=W.hi; have:=W.lo; unfold inr; rw[decide_eq_false (by omega)]; rfl
  have eC:stC ⟨[r0,r1,r2,r3,r4,r5,r6,r7,r8,r9,r10],st,pc,a1,t1,c1,f1⟩ a n v=putL c1 (a-2097152).toNat v n.toNat:=if_pos fr
  have eF:stF ⟨[r0,r1,r2,r3,r4,r5,r6,r7,r8,r9,r10],st,pc,a1,t1,c1,f1⟩ a n v=f1:=if_neg (by rw[g2]; decide)
  have eO:stOk ⟨[r0,r1,r2,r3,r4,r5,r6,r7,r8,r9,r10],st,pc,a1,t1,c1,f1⟩ a n=true:=by unfold stOk; rw[show inr 2097152 c1 a n=true from fr]; rfl
  exact CAt.go hC hpl hok hf.2 (of_decide_eq_true c47) (gD hw hk ea en eO) (by rw[rJ (m:=⟨[r0,r1,r2,r3,r4,r5,r6,r7,r8,r9,r10],st,pc,a1,t1,c1,f1⟩) hk ea en ev,eC,eF]; rfl) rfl rfl rfl rfl
 ·exact absurd (show _=(64:Int) by(try simp only[ap]); omega) (neI c120)
 ·exact absurd (of_decide_eq_false c119) (by(try simp only[ap]); omega)
 intro ρ6 ha6 _ hi6
 obtain⟨_,g1⟩:=hi6
 have k6_l1:=kL ha6 k5_l1
 have k6_i14:=kI ha6 k5_i14
 have k6_i15:=kI ha6 k5_i15
 have k6_i16:=kI ha6 k5_i16
 have k6_i17:=kI ha6 k5_i17
 have k6_i18:=kI ha6 k5_i18
 have k6_i19:=kI ha6 k5_i19
 have k6_i20:=kI ha6 k5_i20
 have k6_i21:=kI ha6 k5_i21
 have k6_i22:=kI ha6 k5_i22
 have k6_i23:=kI ha6 k5_i23
 have k6_i24:=kI ha6 k5_i24
 have k6_i25:=kI ha6 k5_i25
 have k6_i26:=kI ha6 k5_i26
 have k6_i91:=kI ha6 k5_i91
 have k6_l95:=kL ha6 k5_l95
 have k6_l96:=kL ha6 k5_l96
 have k6_l97:=kL ha6 k5_l97
 have k6_l98:=kL ha6 k5_l98
 have k6_i9:=kI ha6 k5_i9
 have k6_i4:=kI ha6 k5_i4
 have k6_i93:=kI ha6 k5_i93
 have k6_l99:=kL ha6 k5_l99
 have k6_i101:=kI ha6 k5_i101
 simp only[k6_l1,k6_i14,k6_i15,k6_i16,k6_i17,k6_i18,k6_i19,k6_i20,k6_i21,k6_i22,k6_i23,k6_i24,k6_i25,k6_i26,k6_i91,k6_l95,k6_l96,k6_l97,k6_l98,k6_i9,k6_i4,k6_i93,k6_l99,k6_i101,ea,en,ev,-eq_self]
 refine⟨fun ds=>ds=[]∧inr 3145728 f1 a n=false,?_,?_⟩
 refine⟨fun ds=>ds=[.z (b2i (!inr 3145728 f1 a n))],?_,?_⟩
 refine⟨fun c121=> ?_,fun c121=> ?_⟩
 ·exact congrArg (fun z=>[Dt.z (b2i z)]) (cd c121)
 refine⟨fun c122=> ?_,fun c122=> ?_⟩
 ·exact congrArg (fun z=>[Dt.z (b2i z)]) (bm (l:=f1) ha (by decide) h1 c121 (by rw[q2]; decide) c122)
 ·rw[wrU (a:=n) (by omega) (by omega)]
  exact congrArg (fun z=>[Dt.z (b2i z)]) (aU (l:=f1) ha (by decide) h1 h8 c121 (by rw[q2]; decide) c122)
 intro ρ7 ha7 _ hi7
 simp only[List.cons.injEq,Dt.z.injEq,Dt.l.injEq,b2i_eq_iff,and_true] at hi7
 have k7_b102:=hi7
 have k7_l1:=kL ha7 k6_l1
 have k7_i14:=kI ha7 k6_i14
 have k7_i15:=kI ha7 k6_i15
 have k7_i16:=kI ha7 k6_i16
 have k7_i17:=kI ha7 k6_i17
 have k7_i18:=kI ha7 k6_i18
 have k7_i19:=kI ha7 k6_i19
 have k7_i20:=kI ha7 k6_i20
 have k7_i21:=kI ha7 k6_i21
 have k7_i22:=kI ha7 k6_i22
 have k7_i23:=kI ha7 k6_i23
 have k7_i24:=kI ha7 k6_i24
 have k7_i25:=kI ha7 k6_i25
 have k7_i26:=kI ha7 k6_i26
 have k7_i91:=kI ha7 k6_i91
 have k7_l95:=kL ha7 k6_l95
 have k7_l96:=kL ha7 k6_l96
 have k7_l97:=kL ha7 k6_l97
 have k7_l98:=kL ha7 k6_l98
 have k7_i9:=kI ha7 k6_i9
 have k7_i4:=kI ha7 k6_i4
 have k7_i93:=kI ha7 k6_i93
 have k7_l99:=kL ha7 k6_l99
 have k7_i101:=kI ha7 k6_i101
 simp only[k7_l1,k7_i14,k7_i15,k7_i16,k7_i17,k7_i18,k7_i19,k7_i20,k7_i21,k7_i22,k7_i23,k7_i24,k7_i25,k7_i26,k7_i91,k7_l95,k7_l96,k7_l97,k7_l98,k7_i9,k7_i4,k7_i93,k7_l99,k7_i101,k7_b102,ea,en,ev,-eq_self]
 refine⟨fun c123=> ?_,fun c123=> ?_⟩
 ·exact⟨rfl,by simpa using c123⟩
 refine⟨fun c124=> ?_,fun c124=> ?_⟩
 ·have fr:inr 3145728 f1 a n=true:=by simpa using c123
  have W:=Win.of fr ha (by decide) (by rw[q2]; decide) h1 h8
  have w1:=W.lo; have w2:=W.hi; have w3:=W.len
  simp only[W.sub,W.cv,W.add] at c124
  exact absurd (of_decide_eq_true c124) (by omega)
 refine⟨fun c125=> ?_,fun c125=> ?_⟩
 ·have fr:inr 3145728 f1 a n=true:=by simpa using c123
  have W:=Win.of fr ha (by decide) (by rw[q2]; decide) h1 h8
  have w1:=W.lo; have w2:=W.hi; have w3:=W.len
  simp only[W.sub,W.cv,W.add] at c125
  exact absurd (of_decide_eq_true c125) (by omega)
 refine⟨fun c126=> ?_,fun c126=> ?_⟩
 ·have fr:inr 3145728 f1 a n=true:=by simpa using c123
  have W:=Win.of fr ha (by decide) (by rw[q2]; decide) h1 h8
  have w1:=W.lo; have w2:=W.hi; have w3:=W.len
  simp only[W.sub,W.cv,W.add] at c126
  exact absurd (of_decide_eq_true c126) (by omega)
 have fr:inr 3145728 f1 a n=true:=by simpa using c123
 have W:=Win.of fr ha (by decide) (by rw[q2]; decide) h1 h8
 refine⟨fun ds=>∃k:Nat,ds=[.z (k:Int),.l c1,.l (putL f1 (a-3145728).toNat v k)]∧k≤n.toNat,fun ds=>n.toNat-(dI ds 0).toNat,⟨0,rfl,Nat.zero_le _⟩,?_⟩
 intro ρ8 ha8 _ hi8
 obtain⟨k,hds,hk2⟩:=hi8
 simp only[List.cons.injEq,Dt.z.injEq,Dt.l.injEq,b2i_eq_iff,and_true] at hds
 obtain⟨k8_i103,k8_l104,k8_l105⟩:=hds
 have k8_l1:=kL ha8 k7_l1
 have k8_i14:=kI ha8 k7_i14
 have k8_i15:=kI ha8 k7_i15
 have k8_i16:=kI ha8 k7_i16
 have k8_i17:=kI ha8 k7_i17
 have k8_i18:=kI ha8 k7_i18
 have k8_i19:=kI ha8 k7_i19
 have k8_i20:=kI ha8 k7_i20
 have k8_i21:=kI ha8 k7_i21
 have k8_i22:=kI ha8 k7_i22
 have k8_i23:=kI ha8 k7_i23
 have k8_i24:=kI ha8 k7_i24
 have k8_i25:=kI ha8 k7_i25
 have k8_i26:=kI ha8 k7_i26
 have k8_i91:=kI ha8 k7_i91
 have k8_l95:=kL ha8 k7_l95
 have k8_l96:=kL ha8 k7_l96
 have k8_l97:=kL ha8 k7_l97
 have k8_l98:=kL ha8 k7_l98
 have k8_i9:=kI ha8 k7_i9
 have k8_i4:=kI ha8 k7_i4
 have k8_i93:=kI ha8 k7_i93
 have k8_l99:=kL ha8 k7_l99
 have k8_i101:=kI ha8 k7_i101
 simp only[k8_l1,k8_i14,k8_i15,k8_i16,k8_i17,k8_i18,k8_i19,k8_i20,k8_i21,k8_i22,k8_i23,k8_i24,k8_i25,k8_i26,k8_i91,k8_l95,k8_l96,k8_l97,k8_l98,k8_i9,k8_i4,k8_i93,k8_l99,k8_i101,k8_i103,k8_l104,k8_l105,ea,en,ev,W.sub,W.cv,W.add,W.win,W.len,-eq_self]
 refine⟨fun c127=> ?_,fun c127=> ?_⟩
 refine⟨fun c128=> ?_,fun c128=> ?_⟩
 ·have hk3:k<n.toNat:=Int.ofNat_lt.1 (of_decide_eq_true c127)
  have w1:=W.lo; have w2:=W.hi; have w3:=W.len
  rw[mulE (by omega)] at c128
  exact absurd (of_decide_eq_true c128) (by omega)
 refine⟨fun c129=> ?_,fun c129=> ?_⟩
 ·have hk3:k<n.toNat:=Int.ofNat_lt.1 (of_decide_eq_true c127)
  have w1:=W.lo; have w2:=W.hi; have w3:=W.len
  rw[ap] at c129
  exact absurd (of_decide_eq_true c129) (by omega)
 refine⟨fun c130=> ?_,fun c130=> ?_⟩
 ·have hk3:k<n.toNat:=Int.ofNat_lt.1 (of_decide_eq_true c127)
  have w1:=W.lo; have w2:=W.hi; have w3:=W.len
  exact absurd (of_decide_eq_true c130) (by omega)
 refine⟨fun c131=> ?_,fun c131=> ?_⟩
 refine⟨fun c132=> ?_,fun c132=> ?_⟩
 ·have hk3:k<n.toNat:=Int.ofNat_lt.1 (of_decide_eq_true c127)
  have w1:=W.lo; have w2:=W.hi; have w3:=W.len
  rw[(W.byte (by rw[q2]; decide) hk3).1] at c132
  exact absurd (of_decide_eq_true c132) (by omega)
 refine⟨fun c133=> ?_,fun c133=> ?_⟩
 ·have hk3:k<n.toNat:=Int.ofNat_lt.1 (of_decide_eq_true c127)
  rw[putS W (by rw[q2]; decide) v hk3,addO hk3 (Nat.le_trans (by omega:n.toNat≤8) (by decide))]
  exact⟨⟨k+1,rfl,hk3⟩,by show n.toNat-(((k+1:Nat):Int)).toNat<n.toNat-((k:Int)).toNat; omega⟩
 ·have hk3:k<n.toNat:=Int.ofNat_lt.1 (of_decide_eq_true c127)
  have w1:=W.lo; have w2:=W.hi; have w3:=W.len
  rw[(W.byte (by rw[q2]; decide) hk3).1,ap] at c133
  exact absurd (of_decide_eq_false c133) (by omega)
 ·have hk3:k<n.toNat:=Int.ofNat_lt.1 (of_decide_eq_true c127)
  have w1:=W.lo; have w2:=W.hi; have w3:=W.len
  simp only[List.length_drop,List.length_take,ap] at c131
  exact absurd (of_decide_eq_false c131) (by omega)
 refine⟨fun c134=> ?_,fun c134=> ?_⟩
 refine⟨fun c135=> ?_,fun c135=> ?_⟩
 ·have hk:(ae p.l pc).k=2:=eqI c83
  have hw:opI .andNot .i64 (aj (ae p.l pc)) st=0:=eqI c69
  obtain rfl:k=n.toNat:=by have:=of_decide_eq_false c127; omega
  have eC:stC ⟨[r0,r1,r2,r3,r4,r5,r6,r7,r8,r9,r10],st,pc,a1,t1,c1,f1⟩ a n v=c1:=if_neg (by rw[g1]; decide)
  have eF:stF ⟨[r0,r1,r2,r3,r4,r5,r6,r7,r8,r9,r10],st,pc,a1,t1,c1,f1⟩ a n v=putL f1 (a-3145728).toNat v n.toNat:=if_pos fr
  have eO:stOk ⟨[r0,r1,r2,r3,r4,r5,r6,r7,r8,r9,r10],st,pc,a1,t1,c1,f1⟩ a n=true:=by unfold stOk; rw[show inr 3145728 f1 a n=true from fr,Bool.or_true]
  exact CAt.go hC hpl hok hf.2 (of_decide_eq_true c47) (gD hw hk ea en eO) (by rw[rJ (m:=⟨[r0,r1,r2,r3,r4,r5,r6,r7,r8,r9,r10],st,pc,a1,t1,c1,f1⟩) hk ea en ev,eC,eF]; rfl) rfl rfl rfl rfl
 ·exact absurd (show _=(64:Int) by(try simp only[ap]); omega) (neI c135)
 ·exact absurd (of_decide_eq_false c134) (by(try simp only[ap]); omega)
 intro ρ7 ha7 _ hi7
 obtain⟨_,g2⟩:=hi7
 have k7_l1:=kL ha7 k6_l1
 have k7_i14:=kI ha7 k6_i14
 have k7_i15:=kI ha7 k6_i15
 have k7_i16:=kI ha7 k6_i16
 have k7_i17:=kI ha7 k6_i17
 have k7_i18:=kI ha7 k6_i18
 have k7_i19:=kI ha7 k6_i19
 have k7_i20:=kI ha7 k6_i20
 have k7_i21:=kI ha7 k6_i21
 have k7_i22:=kI ha7 k6_i22
 have k7_i23:=kI ha7 k6_i23
 have k7_i24:=kI ha7 k6_i24
 have k7_i25:=kI ha7 k6_i25
 have k7_i26:=kI ha7 k6_i26
 have k7_i91:=kI ha7 k6_i91
 have k7_l95:=kL ha7 k6_l95
 have k7_l96:=kL ha7 k6_l96
 have k7_l97:=kL ha7 k6_l97
 have k7_l98:=kL ha7 k6_l98
 have k7_i9:=kI ha7 k6_i9
 have k7_i4:=kI ha7 k6_i4
 have k7_i93:=kI ha7 k6_i93
 have k7_l99:=kL ha7 k6_l99
 have k7_i101:=kI ha7 k6_i101
 simp only[k7_l1,k7_i14,k7_i15,k7_i16,k7_i17,k7_i18,k7_i19,k7_i20,k7_i21,k7_i22,k7_i23,k7_i24,k7_i25,k7_i26,k7_i91,k7_l95,k7_l96,k7_l97,k7_l98,k7_i9,k7_i4,k7_i93,k7_l99,k7_i101,ea,en,ev,-eq_self]
 refine⟨fun ds=>ds=[]∧inr 4194304 [] a n=false,?_,?_⟩
 refine⟨fun ds=>ds=[.z (b2i (!inr 4194304 [] a n))],?_,?_⟩
 refine⟨fun c136=> ?_,fun c136=> ?_⟩
 ·exact congrArg (fun z=>[Dt.z (b2i z)]) (cd c136)
 refine⟨fun c137=> ?_,fun c137=> ?_⟩
 ·exact congrArg (fun z=>[Dt.z (b2i z)]) (bm (l:=[]) ha (by decide) h1 c136 (by decide) c137)
 ·rw[wrU (a:=n) (by omega) (by omega)]
  exact congrArg (fun z=>[Dt.z (b2i z)]) (aU (l:=[]) ha (by decide) h1 h8 c136 (by decide) c137)
 intro ρ8 ha8 _ hi8
 simp only[List.cons.injEq,Dt.z.injEq,Dt.l.injEq,b2i_eq_iff,and_true] at hi8
 have k8_b102:=hi8
 have k8_l1:=kL ha8 k7_l1
 have k8_i14:=kI ha8 k7_i14
 have k8_i15:=kI ha8 k7_i15
 have k8_i16:=kI ha8 k7_i16
 have k8_i17:=kI ha8 k7_i17
 have k8_i18:=kI ha8 k7_i18
 have k8_i19:=kI ha8 k7_i19
 have k8_i20:=kI ha8 k7_i20
 have k8_i21:=kI ha8 k7_i21
 have k8_i22:=kI ha8 k7_i22
 have k8_i23:=kI ha8 k7_i23
 have k8_i24:=kI ha8 k7_i24
 have k8_i25:=kI ha8 k7_i25
 have k8_i26:=kI ha8 k7_i26
 have k8_i91:=kI ha8 k7_i91
 have k8_l95:=kL ha8 k7_l95
 have k8_l96:=kL ha8 k7_l96
 have k8_l97:=kL ha8 k7_l97
 have k8_l98:=kL ha8 k7_l98
 have k8_i9:=kI ha8 k7_i9
 have k8_i4:=kI ha8 k7_i4
 have k8_i93:=kI ha8 k7_i93
 have k8_l99:=kL ha8 k7_l99
 have k8_i101:=kI ha8 k7_i101
 simp only[k8_l1,k8_i14,k8_i15,k8_i16,k8_i17,k8_i18,k8_i19,k8_i20,k8_i21,k8_i22,k8_i23,k8_i24,k8_i25,k8_i26,k8_i91,k8_l95,k8_l96,k8_l97,k8_l98,k8_i9,k8_i4,k8_i93,k8_l99,k8_i101,k8_b102,ea,en,ev,-eq_self]
 refine⟨fun c138=> ?_,fun c138=> ?_⟩
 ·exact⟨rfl,by simpa using c138⟩
 ·exact absurd c138 (by simp[bv h1])
 intro ρ8 ha8 _ hi8
 obtain⟨_,g3⟩:=hi8
 have k8_l1:=kL ha8 k7_l1
 have k8_i14:=kI ha8 k7_i14
 have k8_i15:=kI ha8 k7_i15
 have k8_i16:=kI ha8 k7_i16
 have k8_i17:=kI ha8 k7_i17
 have k8_i18:=kI ha8 k7_i18
 have k8_i19:=kI ha8 k7_i19
 have k8_i20:=kI ha8 k7_i20
 have k8_i21:=kI ha8 k7_i21
 have k8_i22:=kI ha8 k7_i22
 have k8_i23:=kI ha8 k7_i23
 have k8_i24:=kI ha8 k7_i24
 have k8_i25:=kI ha8 k7_i25
 have k8_i26:=kI ha8 k7_i26
 have k8_i91:=kI ha8 k7_i91
 have k8_l95:=kL ha8 k7_l95
 have k8_l96:=kL ha8 k7_l96
 have k8_l97:=kL ha8 k7_l97
 have k8_l98:=kL ha8 k7_l98
 have k8_i9:=kI ha8 k7_i9
 have k8_i4:=kI ha8 k7_i4
 have k8_i93:=kI ha8 k7_i93
 have k8_l99:=kL ha8 k7_l99
 have k8_i101:=kI ha8 k7_i101
 simp only[k8_l1,k8_i14,k8_i15,k8_i16,k8_i17,k8_i18,k8_i19,k8_i20,k8_i21,k8_i22,k8_i23,k8_i24,k8_i25,k8_i26,k8_i91,k8_l95,k8_l96,k8_l97,k8_l98,k8_i9,k8_i4,k8_i93,k8_l99,k8_i101,ea,en,ev,-eq_self]
 refine⟨fun ds=>ds=[.z 0,.l c1,.l f1],fun _=>0,rfl,?_⟩
 intro ρ9 ha9 _ hi9
 simp only[List.cons.injEq,Dt.z.injEq,Dt.l.injEq,b2i_eq_iff,and_true] at hi9
 obtain⟨k9_i102,k9_l103,k9_l104⟩:=hi9
 have k9_l1:=kL ha9 k8_l1
 have k9_i14:=kI ha9 k8_i14
 have k9_i15:=kI ha9 k8_i15
 have k9_i16:=kI ha9 k8_i16
 have k9_i17:=kI ha9 k8_i17
 have k9_i18:=kI ha9 k8_i18
 have k9_i19:=kI ha9 k8_i19
 have k9_i20:=kI ha9 k8_i20
 have k9_i21:=kI ha9 k8_i21
 have k9_i22:=kI ha9 k8_i22
 have k9_i23:=kI ha9 k8_i23
 have k9_i24:=kI ha9 k8_i24
 have k9_i25:=kI ha9 k8_i25
 have k9_i26:=kI ha9 k8_i26
 have k9_i91:=kI ha9 k8_i91
 have k9_l95:=kL ha9 k8_l95
 have k9_l96:=kL ha9 k8_l96
 have k9_l97:=kL ha9 k8_l97
 have k9_l98:=kL ha9 k8_l98
 have k9_i9:=kI ha9 k8_i9
 have k9_i4:=kI ha9 k8_i4
 have k9_i93:=kI ha9 k8_i93
 have k9_l99:=kL ha9 k8_l99
 have k9_i101:=kI ha9 k8_i101
 simp only[k9_l1,k9_i14,k9_i15,k9_i16,k9_i17,k9_i18,k9_i19,k9_i20,k9_i21,k9_i22,k9_i23,k9_i24,k9_i25,k9_i26,k9_i91,k9_l95,k9_l96,k9_l97,k9_l98,k9_i9,k9_i4,k9_i93,k9_l99,k9_i101,k9_i102,k9_l103,k9_l104,ea,en,ev,-eq_self]
 refine⟨fun c139=> ?_,fun c139=> ?_⟩
 refine⟨fun c140=> ?_,fun c140=> ?_⟩
 ·exact absurd (of_decide_eq_true c139) (by decide)
 ·exact absurd (of_decide_eq_true c139) (by decide)
 refine⟨fun c141=> ?_,fun c141=> ?_⟩
 refine⟨fun c142=> ?_,fun c142=> ?_⟩
 have hk:(ae p.l pc).k=2:=eqI c83
 have hw:opI .andNot .i64 (aj (ae p.l pc)) st=0:=eqI c69
 have eO:stOk ⟨[r0,r1,r2,r3,r4,r5,r6,r7,r8,r9,r10],st,pc,a1,t1,c1,f1⟩ a n=false:=by unfold stOk; rw[show inr 2097152 c1 a n=false from g1,show inr 3145728 f1 a n=false from g2]; rfl
 have hE:=CAt.end hop hC hpl hok hf.2 (of_decide_eq_true c47) (oS hw hk ea en eO) (by decide)
 refine⟨fun ds=>∃k:Nat,ds=[.z (k:Int)]∧k≤v1.length,fun ds=>v1.length-(dI ds 0).toNat,⟨0,rfl,Nat.zero_le _⟩,?_⟩
 intro ρ10 ha10 _ hi10
 obtain⟨k,hds,hk9⟩:=hi10
 simp only[List.cons.injEq,Dt.z.injEq,Dt.l.injEq,b2i_eq_iff,and_true] at hds
 have k10_i105:=hds
 have k10_l99:=kL ha10 k9_l99
 have k10_i91:=kI ha10 k9_i91
 have k10_i93:=kI ha10 k9_i93
 have k10_i4:=kI ha10 k9_i4
 have k10_i9:=kI ha10 k9_i9
 simp only[k10_l99,k10_i91,k10_i93,k10_i4,k10_i9,k10_i105,aa,-eq_self]
 refine⟨fun c143=> ?_,fun c143=> ?_⟩
 refine⟨fun c144=> ?_,fun c144=> ?_⟩
 ·exact absurd (of_decide_eq_true c144) (by omega)
 refine⟨fun c145=> ?_,fun c145=> ?_⟩
 ·have hk2:k<v1.length:=Int.ofNat_lt.1 (of_decide_eq_true c143)
  rw[addO hk2 (by rw[q8]; exact hpl)]
  exact⟨⟨k+1,rfl,hk2⟩,by show v1.length-(((k+1:Nat):Int)).toNat<v1.length-((k:Int)).toNat; omega⟩
 ·exact absurd (hE.z (k:Int)) (neI c145)
 refine⟨fun c146=> ?_,fun c146=> ?_⟩
 intro e; (try simp only[e,Ins.eta,Prog.eta,aa,Mem.eta,Mach.eta,-eq_self]); clear e
 ·rfl
 ·exact absurd hE.nn (neI c146)
 ·exact absurd (show _=(64:Int) by omega) (neI c142)
 ·exact absurd (of_decide_eq_false c141) (by omega)
 ·have hmay:=am hpl hok q0 q1
  have hd:=aK hmay
  exact absurd (of_decide_eq_false c87) (by omega)
 ·have hmay:=am hpl hok q0 q1
  have hd:=aK hmay
  exact absurd (of_decide_eq_false c85) (by omega)
 refine⟨fun c147=> ?_,fun c147=> ?_⟩
 refine⟨fun c148=> ?_,fun c148=> ?_⟩
 ·have hmay:=am hpl hok q0 q1
  have hd:=aK hmay
  exact absurd (of_decide_eq_true c148) (by omega)
 refine⟨fun c149=> ?_,fun c149=> ?_⟩
 refine⟨?_,?_⟩
 ·exact fun _=>(by have hd:=bD (am hpl hok hR.pc0 hR.pc1); exact⟨hd.2.2.1,hd.2.2.2.1⟩)
 intro e; (try simp only[e,Ins.eta,Prog.eta,aa,Mem.eta,Mach.eta,-eq_self]); clear e
 intro e; (try simp only[e,Ins.eta,Prog.eta,aa,Mem.eta,Mach.eta,-eq_self]); clear e
 refine⟨fun c150=> ?_,fun c150=> ?_⟩
 intro e; (try simp only[e,Ins.eta,Prog.eta,aa,Mem.eta,Mach.eta,-eq_self]); clear e
 ·have hk:(ae p.l pc).k=3:=eqI c147
  have hw:opI .andNot .i64 (aj (ae p.l pc)) st=0:=eqI c69
  exact CAt.go hC hpl hok hf.2 (of_decide_eq_true c47) (dt hw (.inr (.inl hk))) ((uP (m:=⟨[r0,r1,r2,r3,r4,r5,r6,r7,r8,r9,r10],st,pc,a1,t1,c1,f1⟩) hk c150).symm) rfl rfl rfl rfl
 ·have hk:(ae p.l pc).k=3:=eqI c147
  have hw:opI .andNot .i64 (aj (ae p.l pc)) st=0:=eqI c69
  exact CAt.go hC hpl hok hf.2 (of_decide_eq_true c47) (dt hw (.inr (.inl hk))) ((uQ (m:=⟨[r0,r1,r2,r3,r4,r5,r6,r7,r8,r9,r10],st,pc,a1,t1,c1,f1⟩) hk c150).symm) rfl rfl rfl rfl
 ·have hmay:=am hpl hok q0 q1
  have hd:=aK hmay
  exact absurd (of_decide_eq_false c149) (by omega)
 refine⟨fun c151=> ?_,fun c151=> ?_⟩
 intro e; (try simp only[e,Ins.eta,Prog.eta,aa,Mem.eta,Mach.eta,-eq_self]); clear e
 ·have hk:(ae p.l pc).k=4:=eqI c151
  have hw:opI .andNot .i64 (aj (ae p.l pc)) st=0:=eqI c69
  exact CAt.go hC hpl hok hf.2 (of_decide_eq_true c47) (dt hw (.inr (.inr hk))) (by rw[zD hk]; rfl) rfl rfl rfl rfl
 refine⟨fun c152=> ?_,fun c152=> ?_⟩
 refine⟨fun c153=> ?_,fun c153=> ?_⟩
 have hk:(ae p.l pc).k=5:=eqI c152
 have hw:opI .andNot .i64 (aj (ae p.l pc)) st=0:=eqI c69
 have hE:=CAt.end hop hC hpl hok hf.2 (of_decide_eq_true c47) (oV hw hk (show a1.length=0 by have:=eqI c153; omega)) (by decide)
 refine⟨fun ds=>∃k:Nat,ds=[.z (k:Int)]∧k≤v1.length,fun ds=>v1.length-(dI ds 0).toNat,⟨0,rfl,Nat.zero_le _⟩,?_⟩
 intro ρ4 ha4 _ hi4
 obtain⟨k,hds,hk9⟩:=hi4
 simp only[List.cons.injEq,Dt.z.injEq,Dt.l.injEq,b2i_eq_iff,and_true] at hds
 have k4_i101:=hds
 have k4_l99:=kL ha4 k3_l99
 have k4_i91:=kI ha4 k3_i91
 have k4_i93:=kI ha4 k3_i93
 have k4_i4:=kI ha4 k3_i4
 have k4_i9:=kI ha4 k3_i9
 simp only[k4_l99,k4_i91,k4_i93,k4_i4,k4_i9,k4_i101,aa,-eq_self]
 refine⟨fun c154=> ?_,fun c154=> ?_⟩
 refine⟨fun c155=> ?_,fun c155=> ?_⟩
 ·exact absurd (of_decide_eq_true c155) (by omega)
 refine⟨fun c156=> ?_,fun c156=> ?_⟩
 ·have hk2:k<v1.length:=Int.ofNat_lt.1 (of_decide_eq_true c154)
  rw[addO hk2 (by rw[q8]; exact hpl)]
  exact⟨⟨k+1,rfl,hk2⟩,by show v1.length-(((k+1:Nat):Int)).toNat<v1.length-((k:Int)).toNat; omega⟩
 ·exact absurd (hE.z (k:Int)) (neI c156)
 refine⟨fun c157=> ?_,fun c157=> ?_⟩
 intro e; (try simp only[e,Ins.eta,Prog.eta,aa,Mem.eta,Mach.eta,-eq_self]); clear e
 ·rfl
 ·exact absurd hE.nn (neI c157)
 intro e; (try simp only[e,Ins.eta,Prog.eta,aa,Mem.eta,Mach.eta,-eq_self]); clear e
 refine⟨fun c158=> ?_,fun c158=> ?_⟩
 ·have z:=aF (gt p.l pc 8)
  rw[show opI .add .i64 1 (bP (gt p.l pc 8))=1+bP (gt p.l pc 8) from wrI (by omega) (by omega)] at c158
  exact absurd (of_decide_eq_true c158) (by omega)
 refine⟨fun c159=> ?_,fun c159=> ?_⟩
 ·have z:=aF (gt p.l pc 8)
  rw[show opI .add .i64 1 (bP (gt p.l pc 8))=1+bP (gt p.l pc 8) from wrI (by omega) (by omega)] at c159
  exact absurd (of_decide_eq_true c159) (by omega)
 refine⟨fun c160=> ?_,fun c160=> ?_⟩
 refine⟨fun c161=> ?_,fun c161=> ?_⟩
 ·have z:=aF (gt p.l pc 8)
  rw[show opI .add .i64 1 (bP (gt p.l pc 8))=1+bP (gt p.l pc 8) from wrI (by omega) (by omega),List.length_drop,List.length_take] at c161
  exact absurd (of_decide_eq_true c161) (by simp only[Int.toNat_one]; omega)
 refine⟨fun c162=> ?_,fun c162=> ?_⟩
 refine⟨fun c163=> ?_,fun c163=> ?_⟩
 ·exact absurd (of_decide_eq_true c163) (by have:=of_decide_eq_true c160; omega)
 ·have hk:(ae p.l pc).k=5:=eqI c152
  have hw:opI .andNot .i64 (aj (ae p.l pc)) st=0:=eqI c69
  exact CAt.go hC hpl hok hf.2 (of_decide_eq_true c47) (oW hw hk (show a1.length≠0 by have:=neI c153; omega)) (by rw[zC hk]; rfl) rfl rfl rfl rfl
 ·exact absurd (of_decide_eq_false c162) (by omega)
 ·exact absurd (of_decide_eq_false c160) (by have:=neI c153; omega)
 refine⟨fun c164=> ?_,fun c164=> ?_⟩
 have hk:(ae p.l pc).k=6:=eqI c164
 have hw:opI .andNot .i64 (aj (ae p.l pc)) st=0:=eqI c69
 have hE:=CAt.end hop hC hpl hok hf.2 (of_decide_eq_true c47) (vo hw hk) (by decide)
 refine⟨fun ds=>∃k:Nat,ds=[.z (k:Int)]∧k≤v1.length,fun ds=>v1.length-(dI ds 0).toNat,⟨0,rfl,Nat.zero_le _⟩,?_⟩
 intro ρ4 ha4 _ hi4
 obtain⟨k,hds,hk9⟩:=hi4
 simp only[List.cons.injEq,Dt.z.injEq,Dt.l.injEq,b2i_eq_iff,and_true] at hds
 have k4_i101:=hds
 have k4_l99:=kL ha4 k3_l99
 have k4_i91:=kI ha4 k3_i91
 have k4_i93:=kI ha4 k3_i93
 have k4_i4:=kI ha4 k3_i4
 have k4_i9:=kI ha4 k3_i9
 simp only[k4_l99,k4_i91,k4_i93,k4_i4,k4_i9,k4_i101,aa,-eq_self]
 refine⟨fun c165=> ?_,fun c165=> ?_⟩
 refine⟨fun c166=> ?_,fun c166=> ?_⟩
 ·exact absurd (of_decide_eq_true c166) (by omega)
 refine⟨fun c167=> ?_,fun c167=> ?_⟩
 ·have hk2:k<v1.length:=Int.ofNat_lt.1 (of_decide_eq_true c165)
  rw[addO hk2 (by rw[q8]; exact hpl)]
  exact⟨⟨k+1,rfl,hk2⟩,by show v1.length-(((k+1:Nat):Int)).toNat<v1.length-((k:Int)).toNat; omega⟩
 ·exact absurd (hE.z (k:Int)) (neI c167)
 refine⟨fun c168=> ?_,fun c168=> ?_⟩
 intro e; (try simp only[e,Ins.eta,Prog.eta,aa,Mem.eta,Mach.eta,-eq_self]); clear e
 ·rfl
 ·exact absurd hE.nn (neI c168)
 ·have hmay:=am hpl hok q0 q1
  have hd:=aK hmay
  have n0:=neI c70; have n1:=neI c73; have n2:=neI c83; have n3:=neI c147; have n4:=neI c151; have n5:=neI c152; have n6:=neI c164; omega
 have hE:=CAt.end hop hC hpl hok hf.2 (of_decide_eq_true c47) (vp (neI c69)) (by decide)
 refine⟨fun ds=>∃k:Nat,ds=[.z (k:Int)]∧k≤v1.length,fun ds=>v1.length-(dI ds 0).toNat,⟨0,rfl,Nat.zero_le _⟩,?_⟩
 intro ρ4 ha4 _ hi4
 obtain⟨k,hds,hk9⟩:=hi4
 simp only[List.cons.injEq,Dt.z.injEq,Dt.l.injEq,b2i_eq_iff,and_true] at hds
 have k4_i101:=hds
 have k4_l99:=kL ha4 k3_l99
 have k4_i91:=kI ha4 k3_i91
 have k4_i93:=kI ha4 k3_i93
 have k4_i4:=kI ha4 k3_i4
 have k4_i9:=kI ha4 k3_i9
 simp only[k4_l99,k4_i91,k4_i93,k4_i4,k4_i9,k4_i101,aa,-eq_self]
 refine⟨fun c169=> ?_,fun c169=> ?_⟩
 refine⟨fun c170=> ?_,fun c170=> ?_⟩
 ·exact absurd (of_decide_eq_true c170) (by omega)
 refine⟨fun c171=> ?_,fun c171=> ?_⟩
 ·have hk2:k<v1.length:=Int.ofNat_lt.1 (of_decide_eq_true c169)
  rw[addO hk2 (by rw[q8]; exact hpl)]
  exact⟨⟨k+1,rfl,hk2⟩,by show v1.length-(((k+1:Nat):Int)).toNat<v1.length-((k:Int)).toNat; omega⟩
 ·exact absurd (hE.z (k:Int)) (neI c171)
 refine⟨fun c172=> ?_,fun c172=> ?_⟩
 intro e; (try simp only[e,Ins.eta,Prog.eta,aa,Mem.eta,Mach.eta,-eq_self]); clear e
 ·rfl
 ·exact absurd hE.nn (neI c172)
 ·exact absurd q1 (of_decide_eq_false c68)
 ·exact absurd (show pc<(v1.length:Int) by omega) (of_decide_eq_false c67)
 have hE:=CAt.out hop hC hpl hok hf.2 (of_decide_eq_false c47)
 refine⟨fun ds=>∃k:Nat,ds=[.z (k:Int)]∧k≤v1.length,fun ds=>v1.length-(dI ds 0).toNat,⟨0,rfl,Nat.zero_le _⟩,?_⟩
 intro ρ2 ha2 _ hi2
 obtain⟨k,hds,hk9⟩:=hi2
 simp only[List.cons.injEq,Dt.z.injEq,Dt.l.injEq,b2i_eq_iff,and_true] at hds
 have k2_i100:=hds
 have k2_l99:=kL ha2 k1_l99
 have k2_i91:=kI ha2 k1_i91
 have k2_i93:=kI ha2 k1_i93
 have k2_i4:=kI ha2 k1_i4
 have k2_i9:=kI ha2 k1_i9
 simp only[k2_l99,k2_i91,k2_i93,k2_i4,k2_i9,k2_i100,aa,-eq_self]
 refine⟨fun c173=> ?_,fun c173=> ?_⟩
 refine⟨fun c174=> ?_,fun c174=> ?_⟩
 ·exact absurd (of_decide_eq_true c174) (by omega)
 refine⟨fun c175=> ?_,fun c175=> ?_⟩
 ·have hk2:k<v1.length:=Int.ofNat_lt.1 (of_decide_eq_true c173)
  rw[addO hk2 (by rw[q8]; exact hpl)]
  exact⟨⟨k+1,rfl,hk2⟩,by show v1.length-(((k+1:Nat):Int)).toNat<v1.length-((k:Int)).toNat; omega⟩
 ·exact absurd (hE.z (k:Int)) (neI c175)
 refine⟨fun c176=> ?_,fun c176=> ?_⟩
 intro e; (try simp only[e,Ins.eta,Prog.eta,aa,Mem.eta,Mach.eta,-eq_self]); clear e
 ·rfl
 ·exact absurd hE.nn (neI c176)
 ·exact absurd (show(cx.length:Int)<1073741824 by have:=of_decide_eq_false c41; omega) (of_decide_eq_false c46)
 refine⟨fun _=>False,fun _=>0,neI c30 hF.2.1,?_⟩
 intro ρ1 ha1 _ hif
 refine⟨fun c177=> ?_,fun c177=> ?_⟩
 refine⟨fun c178=> ?_,fun c178=> ?_⟩
 ·exact hif.elim
 refine⟨fun c179=> ?_,fun c179=> ?_⟩
 ·exact hif.elim
 ·exact hif.elim
 refine⟨fun c180=> ?_,fun c180=> ?_⟩
 intro e; (try simp only[e,Ins.eta,Prog.eta,aa,Mem.eta,Mach.eta,-eq_self]); clear e
 ·exact hif.elim
 ·exact hif.elim
 refine⟨fun _=>False,fun _=>0,neI c29 hF.1,?_⟩
 intro ρ1 ha1 _ hif
 refine⟨fun c181=> ?_,fun c181=> ?_⟩
 refine⟨fun c182=> ?_,fun c182=> ?_⟩
 ·exact hif.elim
 refine⟨fun c183=> ?_,fun c183=> ?_⟩
 ·exact hif.elim
 ·exact hif.elim
 refine⟨fun c184=> ?_,fun c184=> ?_⟩
 intro e; (try simp only[e,Ins.eta,Prog.eta,aa,Mem.eta,Mach.eta,-eq_self]); clear e
 ·exact hif.elim
 ·exact hif.elim
 ·exact absurd (congrArg (fun z:Nat=>(z:Int)) (eW (jg (eqI c27)))) (neI c28)
 refine⟨fun c185=> ?_,fun c185=> ?_⟩
 intro e; (try simp only[e,Ins.eta,Prog.eta,aa,Mem.eta,Mach.eta,-eq_self]); clear e
 ·rfl
 ·exact absurd (congrArg (fun z:List (List Int)=>(z.length:Int)) (cp (cx:=cx) (an:=an) (fu:=fu) (p:=p) rfl (fun h=>neI c27 (by rw[mrun,if_neg (by simp[h])])))) (neI c185)
theorem rz (xs:List Dt) (vals:List Value) (w:World) (hw:gZ w [.agg nD,.one (.sl [some .u8] 5),.one (.sl [some .u64] 30),.one (.int .i64)] xs vals):Calls Try.prog 8 vals.toArray w fun e w'=>∃v,e=.returned v∧RetOk [.one .bool] false w w' (gm xs) v:=
 (nG (by kernel_rfl) sF (smc (lk rfl) (smc (oA rfl rfl) (smc (oB rfl rfl) (smc (iO rfl rfl) (smc (lm rfl) (smc (ia rfl) (smc (oC rfl) (smc (sK_holds rfl) (smc (lj rfl rfl) (smc (iN rfl rfl) (smc (uj rfl rfl) (smc (rx rfl rfl) (smc (uk rfl) (smc (zc rfl) sm0)))))))))))))) Try.func8 (fnc Try.func38 (fnc Try.func58 (fnc Try.func59 (fnc Try.func60 (fnc Try.func61 (fnc Try.func62 (fnc Try.func63 (fnc Try.func64 (fnc Try.func36 (fnc Try.func88 (fnc Try.func105 (fnc Try.func78 (fnc Try.func39 (fnc Try.func57 (fnc Try.func77 (fnc Try.func23 (fnc Try.func35 (fnc Try.func24 (fnc Try.func17 (fnc Try.func32 (fnc Try.func37 (fnc Try.func9 fn0)))))))))))))))))))))) rv (pre:=fun _=>True) (fun x0 gx0 x1 gx1 x2 gx2 x3 gx3 x4 gx4 hp ρ g=>rt ⟨x0,x1⟩ ⟨gx0,gx1⟩ x2 gx2 x3 gx3 x4 gx4 ρ g) xs vals w hw trivial).2
set_option maxRecDepth 100000 in
set_option maxHeartbeats 8000000 in
theorem jl {H:Type} {enc:TypeId×Value→H} {W:World} {r:Reach} {b0:Nat} (v0:Value) (k0:Value.okWide Try.prog W r b0 24 v0) (d0:DataW H) (p0:List MemPlace) (h0:DataW.Trod enc Try.prog W 0 (fun _=>true) true 24 v0 d0 p0) (_:∀x∈p0,x.block<W.heap.size) (v1:Value) (k1:Value.okWide Try.prog W r b0 25 v1) (d1:DataW H) (p1:List MemPlace) (h1:DataW.Trod enc Try.prog W 0 (fun _=>true) true 25 v1 d1 p1) (_:∀x∈p1,x.block<W.heap.size) (v2:Value) (k2:Value.okWide Try.prog W r b0 26 v2) (d2:DataW H) (p2:List MemPlace) (h2:DataW.Trod enc Try.prog W 0 (fun _=>true) true 26 v2 d2 p2) (_:∀x∈p2,x.block<W.heap.size) (a3:Int) (w3:(Lit.int .i64 a3).wf=true):
  Calls Try.prog 8 #[v0,v1,v2,.int .i64 a3] W fun e W'=>e=.returned (.bool true)∧Below W.heap.size W W':=by
 obtain⟨a0,q0,s0,rfl,w0,n0,m0,o0,l0⟩:=Prog.of_arg k0 h0
 obtain⟨q1,s1,rfl,n1,m1,o1,l1⟩:=mI rwU8 (by decide) Try.underlying25 k1 h1
 obtain⟨q2,s2,rfl,n2,m2,o2,l2⟩:=mI aba (by decide) Try.underlying26 k2 h2
 refine(rz (.z a0::(.l q0::(.l q1::(.l q2::(.z a3::([])))))) _ W ⟨_,_,_,rfl,⟨_,_,_,rfl,⟨_,rfl,rfl,w0⟩,⟨_,_,_,rfl,⟨_,_,rfl,rfl,n0,m0,o0,l0⟩,⟨rfl,rfl⟩⟩⟩,⟨_,_,_,rfl,⟨_,_,rfl,rfl,n1,m1,o1,l1⟩,⟨_,_,_,rfl,⟨_,_,rfl,rfl,n2,m2,o2,l2⟩,⟨_,_,_,rfl,⟨_,rfl,rfl,(nF w3)⟩,⟨rfl,rfl⟩⟩⟩⟩⟩).mono fun e W' ⟨v,he,hr⟩=> ?_
 have hv:v=.bool true:=RetOk.says hr
 rw[he,hv]
 exact⟨rfl,hr.ext⟩
end Go.Proofs.Ytghiofgomcihcaa
