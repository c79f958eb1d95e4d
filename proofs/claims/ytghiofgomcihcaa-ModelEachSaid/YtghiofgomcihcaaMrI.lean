import Derived.Test.YtghiofgomcihcaaMrD
import Derived.Test.YtghiofgomcihcaaMrZ
import Derived.Test.YtghiofgomcihcaaLiQ
import Derived.Test.YtghiofgomcihcaaProg
import Derived.Laws.Externs
set_option linter.unusedVariables false
set_option linter.unusedSimpArgs false
namespace Go.Proofs.Ytghiofgomcihcaa
open Go.RowKit Go.ChangeShapes Go.WideShapes
theorem rwU8:Rw Try.prog 5 [some .u8]:=Rw.int .u8 Try.underlying5 (by kernel_rfl)
theorem acX:Rw Try.prog 30 [some .u64]:=Rw.int .u64 Try.underlying30 (by kernel_rfl)
def mR:List C:=repC [.int .u64 (.lit 0)] 11++([.int .i64 (.lit 0)]++(repC [.int .u8 (.lit 0)] 64++[]))
theorem yV:Try.prog.eqGuardType Try.prog.depth 56=false:=by kernel_rfl
set_option maxRecDepth 100000 in
theorem ac1:Kl Try.prog 7 53 (repC [.int .u64 (.lit 0)] 11):=Kl.array (d:=6) (Kl.int (d:=5) (.lit 0) Try.underlying30) Try.underlying53 (by kernel_rfl) (by kernel_rfl)
set_option maxRecDepth 100000 in
theorem klN1:Kl Try.prog 7 3 [.int .i64 (.lit 0)]:=Kl.int (d:=6) (.lit 0) Try.underlying3
set_option maxRecDepth 100000 in
theorem ac2:Kl Try.prog 7 54 (repC [.int .u8 (.lit 0)] 64):=Kl.array (d:=6) (Kl.int (d:=5) (.lit 0) Try.underlying5) Try.underlying54 (by kernel_rfl) (by kernel_rfl)
set_option maxRecDepth 100000 in
theorem abx:Kl Try.prog 8 56 mR:=Kl.struct (KlSeq.cons ac1 (by rfl) (by kernel_rfl) (KlSeq.cons klN1 (by rfl) (by kernel_rfl) (KlSeq.cons ac2 (by rfl) (by kernel_rfl) (KlSeq.nil _ _ _)))) Try.underlying56 (by kernel_rfl) (by kernel_rfl)
set_option maxRecDepth 100000 in
theorem abF (vs:List Value) (hv:aD vs mR):(Value.agg vs.toArray).formed Try.prog 56=true:=wX Try.underlying56 (by kernel_rfl) vs hv
set_option maxRecDepth 100000 in
theorem abI (vs us:List Value) (hv:aD vs mR) (hu:aD us mR) (w:World):(Op.equal 56 (.agg vs.toArray) (.agg us.toArray)).run Try.prog w=.ok (eqVs vs us) w:=
 lw (by kernel_rfl) abF 8 (fun vs hv=>abx vs hv) vs us hv hu w
def tys_MrI:List (Nat×TI):=[(3,⟨false,1,[.int .i64 (.lit 0)],[],none,some .i64,false,false,none,8,false,none,false,0⟩),
 (4,⟨false,1,[.bool (.tt false)],[],none,none,false,true,none,1,false,none,false,0⟩),
 (5,⟨false,1,[.int .u8 (.lit 0)],[],none,some .u8,false,false,none,1,false,none,false,0⟩),
 (22,⟨false,1,[.nsl],[],none,none,false,false,some 44,24,false,none,false,0⟩),
 (24,⟨true,2,[.int .i64 (.lit 0),.nsl],[(0,3),(1,22)],none,none,false,false,none,32,false,none,false,0⟩),
 (25,⟨false,1,[.nsl],[],none,none,false,false,some 5,24,false,none,false,0⟩),
 (26,⟨false,1,[.nsl],[],none,none,false,false,some 30,24,false,none,false,0⟩),
 (29,⟨false,1,[.int .i8 (.lit 0)],[],none,some .i8,false,false,none,1,false,none,false,0⟩),
 (30,⟨false,1,[.int .u64 (.lit 0)],[],none,some .u64,false,false,none,8,false,none,false,0⟩),
 (31,⟨false,1,[.nsl],[],none,none,false,false,some 39,24,false,none,false,0⟩),
 (33,⟨true,5,[.int .i8 (.lit 0),.int .u64 (.lit 0),.nsl,.nsl,.int .i64 (.lit 0)],[(0,29),(1,30),(2,25),(3,31),(4,3)],none,none,false,false,none,72,false,none,false,0⟩),
 (34,⟨false,1,[.int .i64 (.lit 0)],[],none,some .i64,false,false,none,8,false,none,false,0⟩),
 (39,⟨true,3,[.int .i64 (.lit 0),.nsl,.int .u64 (.lit 0)],[(0,3),(1,26),(2,30)],none,none,false,false,none,40,false,none,false,0⟩),
 (44,⟨true,9,[.int .i8 (.lit 0),.int .i8 (.lit 0),.int .i8 (.lit 0),.int .i8 (.lit 0),.bool (.tt false),.int .i8 (.lit 0),.int .i8 (.lit 0),.int .i64 (.lit 0),.int .i64 (.lit 0)],[(0,29),(1,29),(2,29),(3,29),(4,4),(5,29),(6,29),(7,3),(8,3)],none,none,true,false,none,24,false,none,false,0⟩),
 (46,⟨false,1,[.nsl],[],none,none,false,false,some 3,24,false,none,false,0⟩),
 (47,⟨false,1,[.nsl],[],none,none,false,false,some 56,24,false,none,false,0⟩),
 (51,⟨false,1,[.nilf],[],none,none,false,false,none,8,true,none,false,0⟩),
 (53,⟨true,11,[.int .u64 (.lit 0),.int .u64 (.lit 0),.int .u64 (.lit 0),.int .u64 (.lit 0),.int .u64 (.lit 0),.int .u64 (.lit 0),.int .u64 (.lit 0),.int .u64 (.lit 0),.int .u64 (.lit 0),.int .u64 (.lit 0),.int .u64 (.lit 0)],[],some (11,30),none,false,false,none,88,false,none,false,0⟩),
 (54,⟨true,64,[.int .u8 (.lit 0),.int .u8 (.lit 0),.int .u8 (.lit 0),.int .u8 (.lit 0),.int .u8 (.lit 0),.int .u8 (.lit 0),.int .u8 (.lit 0),.int .u8 (.lit 0),.int .u8 (.lit 0),.int .u8 (.lit 0),.int .u8 (.lit 0),.int .u8 (.lit 0),.int .u8 (.lit 0),.int .u8 (.lit 0),.int .u8 (.lit 0),.int .u8 (.lit 0),.int .u8 (.lit 0),.int .u8 (.lit 0),.int .u8 (.lit 0),.int .u8 (.lit 0),.int .u8 (.lit 0),.int .u8 (.lit 0),.int .u8 (.lit 0),.int .u8 (.lit 0),.int .u8 (.lit 0),.int .u8 (.lit 0),.int .u8 (.lit 0),.int .u8 (.lit 0),.int .u8 (.lit 0),.int .u8 (.lit 0),.int .u8 (.lit 0),.int .u8 (.lit 0),.int .u8 (.lit 0),.int .u8 (.lit 0),.int .u8 (.lit 0),.int .u8 (.lit 0),.int .u8 (.lit 0),.int .u8 (.lit 0),.int .u8 (.lit 0),.int .u8 (.lit 0),.int .u8 (.lit 0),.int .u8 (.lit 0),.int .u8 (.lit 0),.int .u8 (.lit 0),.int .u8 (.lit 0),.int .u8 (.lit 0),.int .u8 (.lit 0),.int .u8 (.lit 0),.int .u8 (.lit 0),.int .u8 (.lit 0),.int .u8 (.lit 0),.int .u8 (.lit 0),.int .u8 (.lit 0),.int .u8 (.lit 0),.int .u8 (.lit 0),.int .u8 (.lit 0),.int .u8 (.lit 0),.int .u8 (.lit 0),.int .u8 (.lit 0),.int .u8 (.lit 0),.int .u8 (.lit 0),.int .u8 (.lit 0),.int .u8 (.lit 0),.int .u8 (.lit 0)],[],some (64,5),none,false,false,none,64,false,none,false,0⟩),
 (56,⟨true,76,[.int .u64 (.lit 0),.int .u64 (.lit 0),.int .u64 (.lit 0),.int .u64 (.lit 0),.int .u64 (.lit 0),.int .u64 (.lit 0),.int .u64 (.lit 0),.int .u64 (.lit 0),.int .u64 (.lit 0),.int .u64 (.lit 0),.int .u64 (.lit 0),.int .i64 (.lit 0),.int .u8 (.lit 0),.int .u8 (.lit 0),.int .u8 (.lit 0),.int .u8 (.lit 0),.int .u8 (.lit 0),.int .u8 (.lit 0),.int .u8 (.lit 0),.int .u8 (.lit 0),.int .u8 (.lit 0),.int .u8 (.lit 0),.int .u8 (.lit 0),.int .u8 (.lit 0),.int .u8 (.lit 0),.int .u8 (.lit 0),.int .u8 (.lit 0),.int .u8 (.lit 0),.int .u8 (.lit 0),.int .u8 (.lit 0),.int .u8 (.lit 0),.int .u8 (.lit 0),.int .u8 (.lit 0),.int .u8 (.lit 0),.int .u8 (.lit 0),.int .u8 (.lit 0),.int .u8 (.lit 0),.int .u8 (.lit 0),.int .u8 (.lit 0),.int .u8 (.lit 0),.int .u8 (.lit 0),.int .u8 (.lit 0),.int .u8 (.lit 0),.int .u8 (.lit 0),.int .u8 (.lit 0),.int .u8 (.lit 0),.int .u8 (.lit 0),.int .u8 (.lit 0),.int .u8 (.lit 0),.int .u8 (.lit 0),.int .u8 (.lit 0),.int .u8 (.lit 0),.int .u8 (.lit 0),.int .u8 (.lit 0),.int .u8 (.lit 0),.int .u8 (.lit 0),.int .u8 (.lit 0),.int .u8 (.lit 0),.int .u8 (.lit 0),.int .u8 (.lit 0),.int .u8 (.lit 0),.int .u8 (.lit 0),.int .u8 (.lit 0),.int .u8 (.lit 0),.int .u8 (.lit 0),.int .u8 (.lit 0),.int .u8 (.lit 0),.int .u8 (.lit 0),.int .u8 (.lit 0),.int .u8 (.lit 0),.int .u8 (.lit 0),.int .u8 (.lit 0),.int .u8 (.lit 0),.int .u8 (.lit 0),.int .u8 (.lit 0),.int .u8 (.lit 0)],[(0,53),(11,3),(12,54)],none,none,true,false,none,160,false,none,false,0⟩),
 (62,⟨false,1,[.nilp],[],none,none,false,false,none,8,false,none,false,1⟩),
 (66,⟨false,1,[.nilp],[],none,none,false,false,none,8,false,none,false,1⟩),
 (67,⟨false,1,[.nilp],[],none,none,false,false,none,8,false,none,false,1⟩),
 (69,⟨true,84,[.int .i64 (.lit 0),.nsl,.nilp,.int .u64 (.lit 0),.int .u64 (.lit 0),.int .u64 (.lit 0),.int .u64 (.lit 0),.int .u64 (.lit 0),.int .u64 (.lit 0),.int .u64 (.lit 0),.int .u64 (.lit 0),.int .u64 (.lit 0),.int .u64 (.lit 0),.int .u64 (.lit 0),.int .i64 (.lit 0),.int .u8 (.lit 0),.int .u8 (.lit 0),.int .u8 (.lit 0),.int .u8 (.lit 0),.int .u8 (.lit 0),.int .u8 (.lit 0),.int .u8 (.lit 0),.int .u8 (.lit 0),.int .u8 (.lit 0),.int .u8 (.lit 0),.int .u8 (.lit 0),.int .u8 (.lit 0),.int .u8 (.lit 0),.int .u8 (.lit 0),.int .u8 (.lit 0),.int .u8 (.lit 0),.int .u8 (.lit 0),.int .u8 (.lit 0),.int .u8 (.lit 0),.int .u8 (.lit 0),.int .u8 (.lit 0),.int .u8 (.lit 0),.int .u8 (.lit 0),.int .u8 (.lit 0),.int .u8 (.lit 0),.int .u8 (.lit 0),.int .u8 (.lit 0),.int .u8 (.lit 0),.int .u8 (.lit 0),.int .u8 (.lit 0),.int .u8 (.lit 0),.int .u8 (.lit 0),.int .u8 (.lit 0),.int .u8 (.lit 0),.int .u8 (.lit 0),.int .u8 (.lit 0),.int .u8 (.lit 0),.int .u8 (.lit 0),.int .u8 (.lit 0),.int .u8 (.lit 0),.int .u8 (.lit 0),.int .u8 (.lit 0),.int .u8 (.lit 0),.int .u8 (.lit 0),.int .u8 (.lit 0),.int .u8 (.lit 0),.int .u8 (.lit 0),.int .u8 (.lit 0),.int .u8 (.lit 0),.int .u8 (.lit 0),.int .u8 (.lit 0),.int .u8 (.lit 0),.int .u8 (.lit 0),.int .u8 (.lit 0),.int .u8 (.lit 0),.int .u8 (.lit 0),.int .u8 (.lit 0),.int .u8 (.lit 0),.int .u8 (.lit 0),.int .u8 (.lit 0),.int .u8 (.lit 0),.int .u8 (.lit 0),.int .u8 (.lit 0),.int .u8 (.lit 0),.int .i64 (.lit 0),.int .i64 (.lit 0),.nsl,.nsl,.int .i8 (.lit 0)],[(0,24),(2,67),(3,56),(79,3),(80,3),(81,26),(82,31),(83,29)],none,none,false,false,none,272,false,none,false,0⟩),
 (81,⟨false,1,[.nilf],[],none,none,false,false,none,8,true,none,false,0⟩),
 (106,⟨true,3,[.int .u64 (.lit 0),.nsl,.bool (.tt false)],[(0,30),(1,25),(2,4)],none,none,false,false,none,40,false,none,false,0⟩),
 (107,⟨true,12,[.int .u64 (.lit 0),.nsl,.bool (.tt false),.int .u64 (.lit 0),.nsl,.bool (.tt false),.int .u64 (.lit 0),.nsl,.bool (.tt false),.int .u64 (.lit 0),.nsl,.bool (.tt false)],[],some (4,106),none,false,false,none,160,false,none,false,0⟩),
 (109,⟨true,12,[.int .u64 (.lit 0),.nsl,.bool (.tt false),.int .u64 (.lit 0),.nsl,.bool (.tt false),.int .u64 (.lit 0),.nsl,.bool (.tt false),.int .u64 (.lit 0),.nsl,.bool (.tt false)],[(0,107)],none,none,false,false,none,160,false,none,false,0⟩),
 (111,⟨true,7,[.nilf,.nilf,.nilf,.nilf,.nilf,.nilf,.nilf],[],some (7,81),none,false,false,none,56,false,none,false,0⟩)]
set_option maxRecDepth 100000 in
theorem uh:(tys_MrI.all fun p=>ckTI Try.prog p.1 p.2)=true:=by kernel_rfl
theorem mX:(tys_MrI.all fun p=>!p.2.eqok||((Nat.beq p.1 44&&bv p.2.zero iF)||(Nat.beq p.1 56&&bv p.2.zero mR)))=true:=by kernel_rfl
theorem tX:(tys_MrI.all fun p=>!p.2.keyok)=true:=by kernel_rfl
theorem tS:∀t i,(t,i)∈tys_MrI→TIok Try.prog t i:=by
 intro t i h
 refine cQ (eY (f:=ckTI Try.prog) uh h) (fun he=> ?_) (fun he=> ?_) (fun he=> ?_)
 ·have h1:=List.all_eq_true.1 mX (t,i) h
  simp only[he,Bool.not_true,Bool.false_or,Bool.or_eq_true,Bool.and_eq_true] at h1
  rcases h1 with h1 | h1
  ·have hs:=h1.2
   obtain rfl:=Nat.eq_of_beq_eq_true h1.1
   exact fun vs us hv hu=>iA vs us (aB hs hv) (aB hs hu)
  ·have hs:=h1.2
   obtain rfl:=Nat.eq_of_beq_eq_true h1.1
   exact fun vs us hv hu=>abI vs us (aB hs hv) (aB hs hu)
 ·have h1:=List.all_eq_true.1 mX (t,i) h
  simp only[he,Bool.not_true,Bool.false_or,Bool.or_eq_true,Bool.and_eq_true] at h1
  rcases h1 with h1 | h1
  ·have hs:=h1.2
   obtain rfl:=Nat.eq_of_beq_eq_true h1.1
   exact ek
  ·have hs:=h1.2
   obtain rfl:=Nat.eq_of_beq_eq_true h1.1
   exact yV
 ·have h1:=List.all_eq_true.1 tX (t,i) h
  simp[he] at h1
def qA (p:Prog) (cx:List (List Int)) (an:List (List Int)) (fu:Int) (lv:Int):List Dt:=[.z (b2i true)]
def lZ:List Dt→List Dt
 | [.z x0,.l x1,.l x2,.l x3,.z x4,.z x5]=>qA ⟨x0,x1⟩ x2 x3 x4 x5
 | _=>[]
set_option maxRecDepth 100000 in
def sT_leach:Tr:=
(.br (.lt (.lit 100) (.len (.lvar 1)))
(.call 11 [.bool] .nil 6
(.leaf (.consb (.bvar 6) .nil)))
(.br (.lt (.lit 400) (.len (.lvar 2)))
(.call 11 [.bool] .nil 6
(.leaf (.consb (.bvar 6) .nil)))
(.br (.lt (.lit 400) (.len (.lvar 3)))
(.call 11 [.bool] .nil 6
(.leaf (.consb (.bvar 6) .nil)))
(.br (.lt (.lit 2000) (.var 4))
(.br (.lt (.lit 10000) (.var 4))
(.call 10 ([.sl [some .i64] 3]++[.sl [some .u64,some .u64,some .u64,some .u64,some .u64,some .u64,some .u64,some .u64,some .u64,some .u64,some .u64,some .i64,some .u8,some .u8,some .u8,some .u8,some .u8,some .u8,some .u8,some .u8,some .u8,some .u8,some .u8,some .u8,some .u8,some .u8,some .u8,some .u8,some .u8,some .u8,some .u8,some .u8,some .u8,some .u8,some .u8,some .u8,some .u8,some .u8,some .u8,some .u8,some .u8,some .u8,some .u8,some .u8,some .u8,some .u8,some .u8,some .u8,some .u8,some .u8,some .u8,some .u8,some .u8,some .u8,some .u8,some .u8,some .u8,some .u8,some .u8,some .u8,some .u8,some .u8,some .u8,some .u8,some .u8,some .u8,some .u8,some .u8,some .u8,some .u8,some .u8,some .u8,some .u8,some .u8,some .u8,some .u8] 56]++kOut++[.int .i64]) (.cons (.var 0) (.consl (.lvar 1) (.consl (.lvar 2) (.consl (.lvar 3) (.cons (.var 4) .nil))))) 6
(.cut 0 14 [.list [some .i64]]
(.br (.eq (.var 13) (.lit 0))
(.next 0 (.consl (.lvar 6) .nil))
(.next 0 (.consl .lnil .nil)))
(.call 3 [.int .i64,.int .i64] (.cons (.var 0) (.consl (.lvar 1) .nil)) 15
(.br (.eq (.var 16) (.lit 0))
(.br (.eq (.len (.lvar 2)) (.var 0))
(.br (.lt (.var 4) (.lit 0))
(.br (.eq (.lit 0) (.len (.lvar 14)))
(.call 11 [.bool] .nil 17
(.leaf (.consb (.bvar 17) .nil)))
(.br (.eq (.lit 0) (.var 5))
(.call 11 [.bool] .nil 17
(.leaf (.consb (.bvar 17) .nil)))
(.leaf (.consb (.tt false) .nil))))
(.br (.eq (.lit 0) (.len (.lvar 14)))
(.call 11 [.bool] .nil 17
(.leaf (.consb (.bvar 17) .nil)))
(.br (.eq (.lit 0) (.var 5))
(.call 11 [.bool] .nil 17
(.leaf (.consb (.bvar 17) .nil)))
(.leaf (.consb (.tt false) .nil)))))
(.br (.eq (.lit 0) (.len (.lvar 14)))
(.call 11 [.bool] .nil 17
(.leaf (.consb (.bvar 17) .nil)))
(.br (.eq (.lit 0) (.var 5))
(.call 11 [.bool] .nil 17
(.leaf (.consb (.bvar 17) .nil)))
(.leaf (.consb (.tt false) .nil)))))
(.br (.eq (.lit 0) (.len (.lvar 14)))
(.call 11 [.bool] .nil 17
(.leaf (.consb (.bvar 17) .nil)))
(.br (.eq (.lit 0) (.var 5))
(.call 11 [.bool] .nil 17
(.leaf (.consb (.bvar 17) .nil)))
(.leaf (.consb (.tt false) .nil))))))))
(.call 11 [.bool] .nil 6
(.leaf (.consb (.bvar 6) .nil))))
(.call 10 ([.sl [some .i64] 3]++[.sl [some .u64,some .u64,some .u64,some .u64,some .u64,some .u64,some .u64,some .u64,some .u64,some .u64,some .u64,some .i64,some .u8,some .u8,some .u8,some .u8,some .u8,some .u8,some .u8,some .u8,some .u8,some .u8,some .u8,some .u8,some .u8,some .u8,some .u8,some .u8,some .u8,some .u8,some .u8,some .u8,some .u8,some .u8,some .u8,some .u8,some .u8,some .u8,some .u8,some .u8,some .u8,some .u8,some .u8,some .u8,some .u8,some .u8,some .u8,some .u8,some .u8,some .u8,some .u8,some .u8,some .u8,some .u8,some .u8,some .u8,some .u8,some .u8,some .u8,some .u8,some .u8,some .u8,some .u8,some .u8,some .u8,some .u8,some .u8,some .u8,some .u8,some .u8,some .u8,some .u8,some .u8,some .u8,some .u8,some .u8] 56]++kOut++[.int .i64]) (.cons (.var 0) (.consl (.lvar 1) (.consl (.lvar 2) (.consl (.lvar 3) (.cons (.var 4) .nil))))) 6
(.cut 0 14 [.list [some .i64]]
(.br (.eq (.var 13) (.lit 0))
(.next 0 (.consl (.lvar 6) .nil))
(.next 0 (.consl .lnil .nil)))
(.call 3 [.int .i64,.int .i64] (.cons (.var 0) (.consl (.lvar 1) .nil)) 15
(.br (.eq (.var 16) (.lit 0))
(.br (.eq (.len (.lvar 2)) (.var 0))
(.br (.lt (.var 4) (.lit 0))
(.br (.eq (.lit 0) (.len (.lvar 14)))
(.call 11 [.bool] .nil 17
(.leaf (.consb (.bvar 17) .nil)))
(.br (.eq (.lit 0) (.var 5))
(.call 11 [.bool] .nil 17
(.leaf (.consb (.bvar 17) .nil)))
(.leaf (.consb (.tt false) .nil))))
(.br (.lt (.lit 10000) (.var 4))
(.br (.eq (.lit 0) (.len (.lvar 14)))
(.call 11 [.bool] .nil 17
(.leaf (.consb (.bvar 17) .nil)))
(.br (.eq (.lit 0) (.var 5))
(.call 11 [.bool] .nil 17
(.leaf (.consb (.bvar 17) .nil)))
(.leaf (.consb (.tt false) .nil))))
(.br (.lt (.lit 256) (.len (.lvar 2)))
(.br (.eq (.lit 0) (.len (.lvar 14)))
(.call 11 [.bool] .nil 17
(.leaf (.consb (.bvar 17) .nil)))
(.br (.eq (.lit 0) (.var 5))
(.call 11 [.bool] .nil 17
(.leaf (.consb (.bvar 17) .nil)))
(.leaf (.consb (.tt false) .nil))))
(.br (.lt (.len (.lvar 2)) (.lit 1073741824))
(.loop 1 17 [.int .i64,.int .u64,.int .u64,.int .u64,.int .u64,.int .u64,.int .u64,.int .u64,.int .u64,.int .u64,.int .u64,.int .u64,.int .i64,.int .u8,.int .u8,.int .u8,.int .u8,.int .u8,.int .u8,.int .u8,.int .u8,.int .u8,.int .u8,.int .u8,.int .u8,.int .u8,.int .u8,.int .u8,.int .u8,.int .u8,.int .u8,.int .u8,.int .u8,.int .u8,.int .u8,.int .u8,.int .u8,.int .u8,.int .u8,.int .u8,.int .u8,.int .u8,.int .u8,.int .u8,.int .u8,.int .u8,.int .u8,.int .u8,.int .u8,.int .u8,.int .u8,.int .u8,.int .u8,.int .u8,.int .u8,.int .u8,.int .u8,.int .u8,.int .u8,.int .u8,.int .u8,.int .u8,.int .u8,.int .u8,.int .u8,.int .u8,.int .u8,.int .u8,.int .u8,.int .u8,.int .u8,.int .u8,.int .u8,.int .u8,.int .u8,.int .u8,.int .u8,.int .i64,.int .i64,.int .i64,.list [some .u64],.list [some .i64,some .u64,some .i64,some .u64,some .u64,some .u64,some .u64,some .u64],.list [some .u8],.list [some .u8]] (.cons (.var 4) (.cons (.lit 0) (.cons (.lit 2097152) (.cons (.lit 0) (.cons (.lit 0) (.cons (.lit 0) (.cons (.lit 0) (.cons (.lit 0) (.cons (.lit 0) (.cons (.lit 0) (.cons (.lit 0) (.cons (.lit 3145792) (.cons (.lit 1026) (.cons (.lit 0) (.cons (.lit 0) (.cons (.lit 0) (.cons (.lit 0) (.cons (.lit 0) (.cons (.lit 0) (.cons (.lit 0) (.cons (.lit 0) (.cons (.lit 0) (.cons (.lit 0) (.cons (.lit 0) (.cons (.lit 0) (.cons (.lit 0) (.cons (.lit 0) (.cons (.lit 0) (.cons (.lit 0) (.cons (.lit 0) (.cons (.lit 0) (.cons (.lit 0) (.cons (.lit 0) (.cons (.lit 0) (.cons (.lit 0) (.cons (.lit 0) (.cons (.lit 0) (.cons (.lit 0) (.cons (.lit 0) (.cons (.lit 0) (.cons (.lit 0) (.cons (.lit 0) (.cons (.lit 0) (.cons (.lit 0) (.cons (.lit 0) (.cons (.lit 0) (.cons (.lit 0) (.cons (.lit 0) (.cons (.lit 0) (.cons (.lit 0) (.cons (.lit 0) (.cons (.lit 0) (.cons (.lit 0) (.cons (.lit 0) (.cons (.lit 0) (.cons (.lit 0) (.cons (.lit 0) (.cons (.lit 0) (.cons (.lit 0) (.cons (.lit 0) (.cons (.lit 0) (.cons (.lit 0) (.cons (.lit 0) (.cons (.lit 0) (.cons (.lit 0) (.cons (.lit 0) (.cons (.lit 0) (.cons (.lit 0) (.cons (.lit 0) (.cons (.lit 0) (.cons (.lit 0) (.cons (.lit 0) (.cons (.lit 0) (.cons (.lit 0) (.cons (.lit 0) (.cons (.lit 0) (.cons (.lit 0) (.cons (.lit 0) (.cons (.lit 0) (.cons (.lit 0) (.consl (.lvar 3) (.consl .lnil (.consl (.lvar 2) (.consl (.lrep (.lit 64) (.cons (.lit 0) .nil)) .nil))))))))))))))))))))))))))))))))))))))))))))))))))))))))))))))))))))))))))))))))))))
(.br (.lt (.lit 0) (.var 17))
(.br (.lt (.var 96) (.len (.lvar 14)))
(.br (.lt (.var 96) (.lit 0))
.panic
(.br (.eq (.var 94) (.get (.lvar 14) (.var 96) 0))
(.br (.lt (.var 96) (.len (.lvar 7)))
(.br (.beq (.and (.eq (.var 18) (.get (.lvar 7) (.var 96) 0)) (.and (.eq (.var 19) (.get (.lvar 7) (.var 96) 1)) (.and (.eq (.var 20) (.get (.lvar 7) (.var 96) 2)) (.and (.eq (.var 21) (.get (.lvar 7) (.var 96) 3)) (.and (.eq (.var 22) (.get (.lvar 7) (.var 96) 4)) (.and (.eq (.var 23) (.get (.lvar 7) (.var 96) 5)) (.and (.eq (.var 24) (.get (.lvar 7) (.var 96) 6)) (.and (.eq (.var 25) (.get (.lvar 7) (.var 96) 7)) (.and (.eq (.var 26) (.get (.lvar 7) (.var 96) 8)) (.and (.eq (.var 27) (.get (.lvar 7) (.var 96) 9)) (.and (.eq (.var 28) (.get (.lvar 7) (.var 96) 10)) (.and (.eq (.var 29) (.get (.lvar 7) (.var 96) 11)) (.and (.eq (.var 30) (.get (.lvar 7) (.var 96) 12)) (.and (.eq (.var 31) (.get (.lvar 7) (.var 96) 13)) (.and (.eq (.var 32) (.get (.lvar 7) (.var 96) 14)) (.and (.eq (.var 33) (.get (.lvar 7) (.var 96) 15)) (.and (.eq (.var 34) (.get (.lvar 7) (.var 96) 16)) (.and (.eq (.var 35) (.get (.lvar 7) (.var 96) 17)) (.and (.eq (.var 36) (.get (.lvar 7) (.var 96) 18)) (.and (.eq (.var 37) (.get (.lvar 7) (.var 96) 19)) (.and (.eq (.var 38) (.get (.lvar 7) (.var 96) 20)) (.and (.eq (.var 39) (.get (.lvar 7) (.var 96) 21)) (.and (.eq (.var 40) (.get (.lvar 7) (.var 96) 22)) (.and (.eq (.var 41) (.get (.lvar 7) (.var 96) 23)) (.and (.eq (.var 42) (.get (.lvar 7) (.var 96) 24)) (.and (.eq (.var 43) (.get (.lvar 7) (.var 96) 25)) (.and (.eq (.var 44) (.get (.lvar 7) (.var 96) 26)) (.and (.eq (.var 45) (.get (.lvar 7) (.var 96) 27)) (.and (.eq (.var 46) (.get (.lvar 7) (.var 96) 28)) (.and (.eq (.var 47) (.get (.lvar 7) (.var 96) 29)) (.and (.eq (.var 48) (.get (.lvar 7) (.var 96) 30)) (.and (.eq (.var 49) (.get (.lvar 7) (.var 96) 31)) (.and (.eq (.var 50) (.get (.lvar 7) (.var 96) 32)) (.and (.eq (.var 51) (.get (.lvar 7) (.var 96) 33)) (.and (.eq (.var 52) (.get (.lvar 7) (.var 96) 34)) (.and (.eq (.var 53) (.get (.lvar 7) (.var 96) 35)) (.and (.eq (.var 54) (.get (.lvar 7) (.var 96) 36)) (.and (.eq (.var 55) (.get (.lvar 7) (.var 96) 37)) (.and (.eq (.var 56) (.get (.lvar 7) (.var 96) 38)) (.and (.eq (.var 57) (.get (.lvar 7) (.var 96) 39)) (.and (.eq (.var 58) (.get (.lvar 7) (.var 96) 40)) (.and (.eq (.var 59) (.get (.lvar 7) (.var 96) 41)) (.and (.eq (.var 60) (.get (.lvar 7) (.var 96) 42)) (.and (.eq (.var 61) (.get (.lvar 7) (.var 96) 43)) (.and (.eq (.var 62) (.get (.lvar 7) (.var 96) 44)) (.and (.eq (.var 63) (.get (.lvar 7) (.var 96) 45)) (.and (.eq (.var 64) (.get (.lvar 7) (.var 96) 46)) (.and (.eq (.var 65) (.get (.lvar 7) (.var 96) 47)) (.and (.eq (.var 66) (.get (.lvar 7) (.var 96) 48)) (.and (.eq (.var 67) (.get (.lvar 7) (.var 96) 49)) (.and (.eq (.var 68) (.get (.lvar 7) (.var 96) 50)) (.and (.eq (.var 69) (.get (.lvar 7) (.var 96) 51)) (.and (.eq (.var 70) (.get (.lvar 7) (.var 96) 52)) (.and (.eq (.var 71) (.get (.lvar 7) (.var 96) 53)) (.and (.eq (.var 72) (.get (.lvar 7) (.var 96) 54)) (.and (.eq (.var 73) (.get (.lvar 7) (.var 96) 55)) (.and (.eq (.var 74) (.get (.lvar 7) (.var 96) 56)) (.and (.eq (.var 75) (.get (.lvar 7) (.var 96) 57)) (.and (.eq (.var 76) (.get (.lvar 7) (.var 96) 58)) (.and (.eq (.var 77) (.get (.lvar 7) (.var 96) 59)) (.and (.eq (.var 78) (.get (.lvar 7) (.var 96) 60)) (.and (.eq (.var 79) (.get (.lvar 7) (.var 96) 61)) (.and (.eq (.var 80) (.get (.lvar 7) (.var 96) 62)) (.and (.eq (.var 81) (.get (.lvar 7) (.var 96) 63)) (.and (.eq (.var 82) (.get (.lvar 7) (.var 96) 64)) (.and (.eq (.var 83) (.get (.lvar 7) (.var 96) 65)) (.and (.eq (.var 84) (.get (.lvar 7) (.var 96) 66)) (.and (.eq (.var 85) (.get (.lvar 7) (.var 96) 67)) (.and (.eq (.var 86) (.get (.lvar 7) (.var 96) 68)) (.and (.eq (.var 87) (.get (.lvar 7) (.var 96) 69)) (.and (.eq (.var 88) (.get (.lvar 7) (.var 96) 70)) (.and (.eq (.var 89) (.get (.lvar 7) (.var 96) 71)) (.and (.eq (.var 90) (.get (.lvar 7) (.var 96) 72)) (.and (.eq (.var 91) (.get (.lvar 7) (.var 96) 73)) (.and (.eq (.var 92) (.get (.lvar 7) (.var 96) 74)) (.and (.eq (.var 93) (.get (.lvar 7) (.var 96) 75)) (.tt true))))))))))))))))))))))))))))))))))))))))))))))))))))))))))))))))))))))))))))) (.tt true))
(.br (.eq (.bin .add .i64 (.var 96) (.lit 1)) (.var 5))
(.br (.eq (.bin .add .i64 (.var 96) (.lit 1)) (.len (.lvar 14)))
(.call 11 [.bool] .nil 101
(.leaf (.consb (.bvar 101) .nil)))
(.call 11 [.bool] .nil 101
(.leaf (.consb (.bvar 101) .nil))))
(.br (.lt (.var 94) (.lit 0))
.panic
(.br (.lt (.var 94) (.len (.lvar 1)))
(.call 9 [.int .i64] (.cons (.get (.lvar 1) (.var 94) 0) (.cons (.get (.lvar 1) (.var 94) 1) (.cons (.get (.lvar 1) (.var 94) 2) (.cons (.get (.lvar 1) (.var 94) 3) (.consb (.getb (.lvar 1) (.var 94) 4) (.cons (.get (.lvar 1) (.var 94) 5) (.cons (.get (.lvar 1) (.var 94) 6) (.cons (.get (.lvar 1) (.var 94) 7) (.cons (.get (.lvar 1) (.var 94) 8) .nil))))))))) 101
(.br (.eq (.bin .andNot .i64 (.var 101) (.var 29)) (.lit 0))
(.br (.eq (.get (.lvar 1) (.var 94) 0) (.lit 0))
(.br (.lt (.get (.lvar 1) (.var 94) 5) (.lit 0))
.panic
(.br (.lt (.get (.lvar 1) (.var 94) 5) (.lit 11))
(.call 1 [.int .u64] (.vs 18 11 (.cons (.get (.lvar 1) (.var 94) 0) (.cons (.get (.lvar 1) (.var 94) 1) (.cons (.get (.lvar 1) (.var 94) 2) (.cons (.get (.lvar 1) (.var 94) 3) (.consb (.getb (.lvar 1) (.var 94) 4) (.cons (.get (.lvar 1) (.var 94) 5) (.cons (.get (.lvar 1) (.var 94) 6) (.cons (.get (.lvar 1) (.var 94) 7) (.cons (.get (.lvar 1) (.var 94) 8) .nil)))))))))) 102
(.call 6 [.int .u64,.int .i64] (.cons (.get (.lvar 1) (.var 94) 1) (.cons (.get (.lvar 1) (.var 94) 2) (.cons (.nth (.get (.lvar 1) (.var 94) 5) (.vs 18 11 .nil)) (.cons (.var 102) .nil)))) 103
(.next 1 (.cons (.bin .sub .i64 (.var 17) (.lit 1)) (.cons (.ite (.eq (.get (.lvar 1) (.var 94) 5) (.lit 0)) (.var 103) (.var 18)) (.cons (.ite (.eq (.get (.lvar 1) (.var 94) 5) (.lit 1)) (.var 103) (.var 19)) (.cons (.ite (.eq (.get (.lvar 1) (.var 94) 5) (.lit 2)) (.var 103) (.var 20)) (.cons (.ite (.eq (.get (.lvar 1) (.var 94) 5) (.lit 3)) (.var 103) (.var 21)) (.cons (.ite (.eq (.get (.lvar 1) (.var 94) 5) (.lit 4)) (.var 103) (.var 22)) (.cons (.ite (.eq (.get (.lvar 1) (.var 94) 5) (.lit 5)) (.var 103) (.var 23)) (.cons (.ite (.eq (.get (.lvar 1) (.var 94) 5) (.lit 6)) (.var 103) (.var 24)) (.cons (.ite (.eq (.get (.lvar 1) (.var 94) 5) (.lit 7)) (.var 103) (.var 25)) (.cons (.ite (.eq (.get (.lvar 1) (.var 94) 5) (.lit 8)) (.var 103) (.var 26)) (.cons (.ite (.eq (.get (.lvar 1) (.var 94) 5) (.lit 9)) (.var 103) (.var 27)) (.cons (.ite (.eq (.get (.lvar 1) (.var 94) 5) (.lit 10)) (.var 103) (.var 28)) (.cons (.bin .or .i64 (.var 29) (.bin .shl .i64 (.lit 1) (.get (.lvar 1) (.var 94) 5))) (.vs 30 64 (.cons (.bin .add .i64 (.var 94) (.lit 1)) (.cons (.bin .add .i64 (.var 94) (.lit 1)) (.cons (.bin .add .i64 (.var 96) (.lit 1)) (.consl (.lvar 97) (.consl (.lvar 98) (.consl (.lvar 99) (.consl (.lvar 100) .nil))))))))))))))))))))))))
.panic))
(.br (.eq (.get (.lvar 1) (.var 94) 0) (.lit 1))
(.br (.lt (.get (.lvar 1) (.var 94) 6) (.lit 0))
.panic
(.br (.lt (.get (.lvar 1) (.var 94) 6) (.lit 11))
(.call 0 [.int .u64] (.cons (.get (.lvar 1) (.var 94) 7) .nil) 102
(.call 8 [.int .u64,.int .i64] (.cons (.lit 1048576) (.consl (.lrep (.lit 0) (.cons (.lit 0) .nil)) (.consb (.tt false) (.cons (.lit 2097152) (.consl (.lvar 99) (.consb (.tt true) (.cons (.lit 3145728) (.consl (.lvar 100) (.consb (.tt true) (.cons (.lit 4194304) (.consl .lnil (.consb (.tt true) (.cons (.bin .add .u64 (.nth (.get (.lvar 1) (.var 94) 6) (.vs 18 11 .nil)) (.var 102)) (.cons (.conv .i64 (.get (.lvar 1) (.var 94) 3)) .nil)))))))))))))) 103
(.br (.eq (.var 104) (.lit 0))
(.br (.lt (.get (.lvar 1) (.var 94) 5) (.lit 0))
.panic
(.br (.lt (.get (.lvar 1) (.var 94) 5) (.lit 11))
(.next 1 (.cons (.bin .sub .i64 (.var 17) (.lit 1)) (.cons (.ite (.eq (.get (.lvar 1) (.var 94) 5) (.lit 0)) (.var 103) (.var 18)) (.cons (.ite (.eq (.get (.lvar 1) (.var 94) 5) (.lit 1)) (.var 103) (.var 19)) (.cons (.ite (.eq (.get (.lvar 1) (.var 94) 5) (.lit 2)) (.var 103) (.var 20)) (.cons (.ite (.eq (.get (.lvar 1) (.var 94) 5) (.lit 3)) (.var 103) (.var 21)) (.cons (.ite (.eq (.get (.lvar 1) (.var 94) 5) (.lit 4)) (.var 103) (.var 22)) (.cons (.ite (.eq (.get (.lvar 1) (.var 94) 5) (.lit 5)) (.var 103) (.var 23)) (.cons (.ite (.eq (.get (.lvar 1) (.var 94) 5) (.lit 6)) (.var 103) (.var 24)) (.cons (.ite (.eq (.get (.lvar 1) (.var 94) 5) (.lit 7)) (.var 103) (.var 25)) (.cons (.ite (.eq (.get (.lvar 1) (.var 94) 5) (.lit 8)) (.var 103) (.var 26)) (.cons (.ite (.eq (.get (.lvar 1) (.var 94) 5) (.lit 9)) (.var 103) (.var 27)) (.cons (.ite (.eq (.get (.lvar 1) (.var 94) 5) (.lit 10)) (.var 103) (.var 28)) (.cons (.bin .or .i64 (.var 29) (.bin .shl .i64 (.lit 1) (.get (.lvar 1) (.var 94) 5))) (.vs 30 64 (.cons (.bin .add .i64 (.var 94) (.lit 1)) (.cons (.bin .add .i64 (.var 94) (.lit 1)) (.cons (.bin .add .i64 (.var 96) (.lit 1)) (.consl (.lvar 97) (.consl (.lvar 98) (.consl (.lvar 99) (.consl (.lvar 100) .nil))))))))))))))))))))))
.panic))
(.br (.eq (.bin .add .i64 (.var 96) (.lit 1)) (.len (.lvar 14)))
(.call 11 [.bool] .nil 105
(.leaf (.consb (.bvar 105) .nil)))
(.leaf (.consb (.tt false) .nil))))))
.panic))
(.br (.eq (.get (.lvar 1) (.var 94) 0) (.lit 2))
(.br (.lt (.get (.lvar 1) (.var 94) 5) (.lit 0))
.panic
(.br (.lt (.get (.lvar 1) (.var 94) 5) (.lit 11))
(.call 0 [.int .u64] (.cons (.get (.lvar 1) (.var 94) 7) .nil) 102
(.br (.lt (.get (.lvar 1) (.var 94) 6) (.lit 0))
.panic
(.br (.lt (.get (.lvar 1) (.var 94) 6) (.lit 11))
(.cut 2 103 []
(.br (.eq (.conv .i64 (.get (.lvar 1) (.var 94) 3)) (.lit 1))
(.next 2 .nil)
(.br (.eq (.conv .i64 (.get (.lvar 1) (.var 94) 3)) (.lit 2))
(.next 2 .nil)
(.br (.eq (.conv .i64 (.get (.lvar 1) (.var 94) 3)) (.lit 4))
(.next 2 .nil)
(.br (.eq (.conv .i64 (.get (.lvar 1) (.var 94) 3)) (.lit 8))
(.next 2 .nil)
(.loop 3 103 [.int .i64,.list [some .u8],.list [some .u8]] (.cons (.lit 0) (.consl (.lvar 99) (.consl (.lvar 100) .nil)))
(.br (.lt (.var 103) (.lit 0))
(.br (.lt (.bin .mul .i64 (.lit 8) (.var 103)) (.lit 0))
.panic
.panic)
(.br (.lt (.len (.lvar 105)) (.lit 1073741824))
(.br (.eq (.len (.lvar 105)) (.lit 64))
(.br (.eq (.bin .add .i64 (.var 96) (.lit 1)) (.len (.lvar 14)))
(.call 11 [.bool] .nil 106
(.leaf (.consb (.bvar 106) .nil)))
(.leaf (.consb (.tt false) .nil)))
(.stuck 225))
.panic)))))))
(.cut 3 103 []
(.cut 4 103 [.bool]
(.br (.lt (.bin .add .u64 (.nth (.get (.lvar 1) (.var 94) 5) (.vs 18 11 .nil)) (.var 102)) (.lit 1048576))
(.next 4 (.consb (.tt true) .nil))
(.br (.lt (.lit 0) (.bin .sub .u64 (.bin .add .u64 (.nth (.get (.lvar 1) (.var 94) 5) (.vs 18 11 .nil)) (.var 102)) (.lit 1048576)))
(.next 4 (.consb (.tt true) .nil))
(.next 4 (.consb (.lt (.bin .sub .u64 (.lit 0) (.bin .sub .u64 (.bin .add .u64 (.nth (.get (.lvar 1) (.var 94) 5) (.vs 18 11 .nil)) (.var 102)) (.lit 1048576))) (.conv .u64 (.conv .i64 (.get (.lvar 1) (.var 94) 3)))) .nil))))
(.br (.bvar 103)
(.next 3 .nil)
(.br (.lt (.bin .sub .u64 (.bin .add .u64 (.nth (.get (.lvar 1) (.var 94) 5) (.vs 18 11 .nil)) (.var 102)) (.lit 1048576)) (.lit 0))
.panic
(.br (.lt (.bin .add .i64 (.conv .i64 (.bin .sub .u64 (.bin .add .u64 (.nth (.get (.lvar 1) (.var 94) 5) (.vs 18 11 .nil)) (.var 102)) (.lit 1048576))) (.conv .i64 (.get (.lvar 1) (.var 94) 3))) (.bin .sub .u64 (.bin .add .u64 (.nth (.get (.lvar 1) (.var 94) 5) (.vs 18 11 .nil)) (.var 102)) (.lit 1048576)))
.panic
(.br (.lt (.lit 0) (.bin .add .i64 (.conv .i64 (.bin .sub .u64 (.bin .add .u64 (.nth (.get (.lvar 1) (.var 94) 5) (.vs 18 11 .nil)) (.var 102)) (.lit 1048576))) (.conv .i64 (.get (.lvar 1) (.var 94) 3))))
.panic
(.next 3 .nil))))))
(.cut 4 103 []
(.cut 5 103 [.bool]
(.br (.lt (.bin .add .u64 (.nth (.get (.lvar 1) (.var 94) 5) (.vs 18 11 .nil)) (.var 102)) (.lit 2097152))
(.next 5 (.consb (.tt true) .nil))
(.br (.lt (.conv .u64 (.len (.lvar 99))) (.bin .sub .u64 (.bin .add .u64 (.nth (.get (.lvar 1) (.var 94) 5) (.vs 18 11 .nil)) (.var 102)) (.lit 2097152)))
(.next 5 (.consb (.tt true) .nil))
(.next 5 (.consb (.lt (.bin .sub .u64 (.conv .u64 (.len (.lvar 99))) (.bin .sub .u64 (.bin .add .u64 (.nth (.get (.lvar 1) (.var 94) 5) (.vs 18 11 .nil)) (.var 102)) (.lit 2097152))) (.conv .u64 (.conv .i64 (.get (.lvar 1) (.var 94) 3)))) .nil))))
(.br (.bvar 103)
(.next 4 .nil)
(.br (.lt (.bin .sub .u64 (.bin .add .u64 (.nth (.get (.lvar 1) (.var 94) 5) (.vs 18 11 .nil)) (.var 102)) (.lit 2097152)) (.lit 0))
.panic
(.br (.lt (.bin .add .i64 (.conv .i64 (.bin .sub .u64 (.bin .add .u64 (.nth (.get (.lvar 1) (.var 94) 5) (.vs 18 11 .nil)) (.var 102)) (.lit 2097152))) (.conv .i64 (.get (.lvar 1) (.var 94) 3))) (.bin .sub .u64 (.bin .add .u64 (.nth (.get (.lvar 1) (.var 94) 5) (.vs 18 11 .nil)) (.var 102)) (.lit 2097152)))
.panic
(.br (.lt (.len (.lvar 99)) (.bin .add .i64 (.conv .i64 (.bin .sub .u64 (.bin .add .u64 (.nth (.get (.lvar 1) (.var 94) 5) (.vs 18 11 .nil)) (.var 102)) (.lit 2097152))) (.conv .i64 (.get (.lvar 1) (.var 94) 3))))
.panic
(.loop 6 104 [.int .i64,.list [some .u8],.list [some .u8]] (.cons (.lit 0) (.consl (.lvar 99) (.consl (.lvar 100) .nil)))
(.br (.lt (.var 104) (.len (.ldrop (.ltake (.lvar 99) (.bin .add .i64 (.conv .i64 (.bin .sub .u64 (.bin .add .u64 (.nth (.get (.lvar 1) (.var 94) 5) (.vs 18 11 .nil)) (.var 102)) (.lit 2097152))) (.conv .i64 (.get (.lvar 1) (.var 94) 3)))) (.bin .sub .u64 (.bin .add .u64 (.nth (.get (.lvar 1) (.var 94) 5) (.vs 18 11 .nil)) (.var 102)) (.lit 2097152)))))
(.br (.lt (.bin .mul .i64 (.lit 8) (.var 104)) (.lit 0))
.panic
(.br (.lt (.len (.lvar 105)) (.bin .add .i64 (.conv .i64 (.bin .sub .u64 (.bin .add .u64 (.nth (.get (.lvar 1) (.var 94) 5) (.vs 18 11 .nil)) (.var 102)) (.lit 2097152))) (.conv .i64 (.get (.lvar 1) (.var 94) 3))))
(.stuck 185)
(.br (.lt (.var 104) (.lit 0))
.panic
(.br (.lt (.var 104) (.len (.ldrop (.ltake (.lvar 105) (.bin .add .i64 (.conv .i64 (.bin .sub .u64 (.bin .add .u64 (.nth (.get (.lvar 1) (.var 94) 5) (.vs 18 11 .nil)) (.var 102)) (.lit 2097152))) (.conv .i64 (.get (.lvar 1) (.var 94) 3)))) (.bin .sub .u64 (.bin .add .u64 (.nth (.get (.lvar 1) (.var 94) 5) (.vs 18 11 .nil)) (.var 102)) (.lit 2097152)))))
(.br (.lt (.bin .add .i64 (.bin .sub .u64 (.bin .add .u64 (.nth (.get (.lvar 1) (.var 94) 5) (.vs 18 11 .nil)) (.var 102)) (.lit 2097152)) (.var 104)) (.lit 0))
(.stuck 58)
(.br (.lt (.bin .add .i64 (.bin .sub .u64 (.bin .add .u64 (.nth (.get (.lvar 1) (.var 94) 5) (.vs 18 11 .nil)) (.var 102)) (.lit 2097152)) (.var 104)) (.len (.lvar 105)))
(.next 6 (.cons (.bin .add .i64 (.var 104) (.lit 1)) (.consl (.lset (.lvar 105) (.bin .add .i64 (.bin .sub .u64 (.bin .add .u64 (.nth (.get (.lvar 1) (.var 94) 5) (.vs 18 11 .nil)) (.var 102)) (.lit 2097152)) (.var 104)) 0 (.conv .u8 (.bin .shr .u64 (.nth (.get (.lvar 1) (.var 94) 6) (.vs 18 11 .nil)) (.bin .mul .i64 (.lit 8) (.var 104))))) (.consl (.lvar 106) .nil))))
(.stuck 58)))
.panic))))
(.br (.lt (.len (.lvar 106)) (.lit 1073741824))
(.br (.eq (.len (.lvar 106)) (.lit 64))
(.next 1 (.cons (.bin .sub .i64 (.var 17) (.lit 1)) (.vs 18 12 (.cons (.get (.lvar 106) (.lit 0) 0) (.cons (.get (.lvar 106) (.lit 1) 0) (.cons (.get (.lvar 106) (.lit 2) 0) (.cons (.get (.lvar 106) (.lit 3) 0) (.cons (.get (.lvar 106) (.lit 4) 0) (.cons (.get (.lvar 106) (.lit 5) 0) (.cons (.get (.lvar 106) (.lit 6) 0) (.cons (.get (.lvar 106) (.lit 7) 0) (.cons (.get (.lvar 106) (.lit 8) 0) (.cons (.get (.lvar 106) (.lit 9) 0) (.cons (.get (.lvar 106) (.lit 10) 0) (.cons (.get (.lvar 106) (.lit 11) 0) (.cons (.get (.lvar 106) (.lit 12) 0) (.cons (.get (.lvar 106) (.lit 13) 0) (.cons (.get (.lvar 106) (.lit 14) 0) (.cons (.get (.lvar 106) (.lit 15) 0) (.cons (.get (.lvar 106) (.lit 16) 0) (.cons (.get (.lvar 106) (.lit 17) 0) (.cons (.get (.lvar 106) (.lit 18) 0) (.cons (.get (.lvar 106) (.lit 19) 0) (.cons (.get (.lvar 106) (.lit 20) 0) (.cons (.get (.lvar 106) (.lit 21) 0) (.cons (.get (.lvar 106) (.lit 22) 0) (.cons (.get (.lvar 106) (.lit 23) 0) (.cons (.get (.lvar 106) (.lit 24) 0) (.cons (.get (.lvar 106) (.lit 25) 0) (.cons (.get (.lvar 106) (.lit 26) 0) (.cons (.get (.lvar 106) (.lit 27) 0) (.cons (.get (.lvar 106) (.lit 28) 0) (.cons (.get (.lvar 106) (.lit 29) 0) (.cons (.get (.lvar 106) (.lit 30) 0) (.cons (.get (.lvar 106) (.lit 31) 0) (.cons (.get (.lvar 106) (.lit 32) 0) (.cons (.get (.lvar 106) (.lit 33) 0) (.cons (.get (.lvar 106) (.lit 34) 0) (.cons (.get (.lvar 106) (.lit 35) 0) (.cons (.get (.lvar 106) (.lit 36) 0) (.cons (.get (.lvar 106) (.lit 37) 0) (.cons (.get (.lvar 106) (.lit 38) 0) (.cons (.get (.lvar 106) (.lit 39) 0) (.cons (.get (.lvar 106) (.lit 40) 0) (.cons (.get (.lvar 106) (.lit 41) 0) (.cons (.get (.lvar 106) (.lit 42) 0) (.cons (.get (.lvar 106) (.lit 43) 0) (.cons (.get (.lvar 106) (.lit 44) 0) (.cons (.get (.lvar 106) (.lit 45) 0) (.cons (.get (.lvar 106) (.lit 46) 0) (.cons (.get (.lvar 106) (.lit 47) 0) (.cons (.get (.lvar 106) (.lit 48) 0) (.cons (.get (.lvar 106) (.lit 49) 0) (.cons (.get (.lvar 106) (.lit 50) 0) (.cons (.get (.lvar 106) (.lit 51) 0) (.cons (.get (.lvar 106) (.lit 52) 0) (.cons (.get (.lvar 106) (.lit 53) 0) (.cons (.get (.lvar 106) (.lit 54) 0) (.cons (.get (.lvar 106) (.lit 55) 0) (.cons (.get (.lvar 106) (.lit 56) 0) (.cons (.get (.lvar 106) (.lit 57) 0) (.cons (.get (.lvar 106) (.lit 58) 0) (.cons (.get (.lvar 106) (.lit 59) 0) (.cons (.get (.lvar 106) (.lit 60) 0) (.cons (.get (.lvar 106) (.lit 61) 0) (.cons (.get (.lvar 106) (.lit 62) 0) (.cons (.get (.lvar 106) (.lit 63) 0) (.cons (.bin .add .i64 (.var 94) (.lit 1)) (.cons (.bin .add .i64 (.var 94) (.lit 1)) (.cons (.bin .add .i64 (.var 96) (.lit 1)) (.consl (.lvar 97) (.consl (.lvar 98) (.consl (.lvar 105) (.consl (.lvar 106) .nil))))))))))))))))))))))))))))))))))))))))))))))))))))))))))))))))))))))))))
(.stuck 225))
.panic))))))))
(.cut 5 103 []
(.cut 6 103 [.bool]
(.br (.lt (.bin .add .u64 (.nth (.get (.lvar 1) (.var 94) 5) (.vs 18 11 .nil)) (.var 102)) (.lit 3145728))
(.next 6 (.consb (.tt true) .nil))
(.br (.lt (.conv .u64 (.len (.lvar 100))) (.bin .sub .u64 (.bin .add .u64 (.nth (.get (.lvar 1) (.var 94) 5) (.vs 18 11 .nil)) (.var 102)) (.lit 3145728)))
(.next 6 (.consb (.tt true) .nil))
(.next 6 (.consb (.lt (.bin .sub .u64 (.conv .u64 (.len (.lvar 100))) (.bin .sub .u64 (.bin .add .u64 (.nth (.get (.lvar 1) (.var 94) 5) (.vs 18 11 .nil)) (.var 102)) (.lit 3145728))) (.conv .u64 (.conv .i64 (.get (.lvar 1) (.var 94) 3)))) .nil))))
(.br (.bvar 103)
(.next 5 .nil)
(.br (.lt (.bin .sub .u64 (.bin .add .u64 (.nth (.get (.lvar 1) (.var 94) 5) (.vs 18 11 .nil)) (.var 102)) (.lit 3145728)) (.lit 0))
.panic
(.br (.lt (.bin .add .i64 (.conv .i64 (.bin .sub .u64 (.bin .add .u64 (.nth (.get (.lvar 1) (.var 94) 5) (.vs 18 11 .nil)) (.var 102)) (.lit 3145728))) (.conv .i64 (.get (.lvar 1) (.var 94) 3))) (.bin .sub .u64 (.bin .add .u64 (.nth (.get (.lvar 1) (.var 94) 5) (.vs 18 11 .nil)) (.var 102)) (.lit 3145728)))
.panic
(.br (.lt (.len (.lvar 100)) (.bin .add .i64 (.conv .i64 (.bin .sub .u64 (.bin .add .u64 (.nth (.get (.lvar 1) (.var 94) 5) (.vs 18 11 .nil)) (.var 102)) (.lit 3145728))) (.conv .i64 (.get (.lvar 1) (.var 94) 3))))
.panic
(.loop 7 104 [.int .i64,.list [some .u8],.list [some .u8]] (.cons (.lit 0) (.consl (.lvar 99) (.consl (.lvar 100) .nil)))
(.br (.lt (.var 104) (.len (.ldrop (.ltake (.lvar 100) (.bin .add .i64 (.conv .i64 (.bin .sub .u64 (.bin .add .u64 (.nth (.get (.lvar 1) (.var 94) 5) (.vs 18 11 .nil)) (.var 102)) (.lit 3145728))) (.conv .i64 (.get (.lvar 1) (.var 94) 3)))) (.bin .sub .u64 (.bin .add .u64 (.nth (.get (.lvar 1) (.var 94) 5) (.vs 18 11 .nil)) (.var 102)) (.lit 3145728)))))
(.br (.lt (.bin .mul .i64 (.lit 8) (.var 104)) (.lit 0))
.panic
(.br (.lt (.len (.lvar 106)) (.bin .add .i64 (.conv .i64 (.bin .sub .u64 (.bin .add .u64 (.nth (.get (.lvar 1) (.var 94) 5) (.vs 18 11 .nil)) (.var 102)) (.lit 3145728))) (.conv .i64 (.get (.lvar 1) (.var 94) 3))))
(.stuck 185)
(.br (.lt (.var 104) (.lit 0))
.panic
(.br (.lt (.var 104) (.len (.ldrop (.ltake (.lvar 106) (.bin .add .i64 (.conv .i64 (.bin .sub .u64 (.bin .add .u64 (.nth (.get (.lvar 1) (.var 94) 5) (.vs 18 11 .nil)) (.var 102)) (.lit 3145728))) (.conv .i64 (.get (.lvar 1) (.var 94) 3)))) (.bin .sub .u64 (.bin .add .u64 (.nth (.get (.lvar 1) (.var 94) 5) (.vs 18 11 .nil)) (.var 102)) (.lit 3145728)))))
(.br (.lt (.bin .add .i64 (.bin .sub .u64 (.bin .add .u64 (.nth (.get (.lvar 1) (.var 94) 5) (.vs 18 11 .nil)) (.var 102)) (.lit 3145728)) (.var 104)) (.lit 0))
(.stuck 58)
(.br (.lt (.bin .add .i64 (.bin .sub .u64 (.bin .add .u64 (.nth (.get (.lvar 1) (.var 94) 5) (.vs 18 11 .nil)) (.var 102)) (.lit 3145728)) (.var 104)) (.len (.lvar 106)))
(.next 7 (.cons (.bin .add .i64 (.var 104) (.lit 1)) (.consl (.lvar 105) (.consl (.lset (.lvar 106) (.bin .add .i64 (.bin .sub .u64 (.bin .add .u64 (.nth (.get (.lvar 1) (.var 94) 5) (.vs 18 11 .nil)) (.var 102)) (.lit 3145728)) (.var 104)) 0 (.conv .u8 (.bin .shr .u64 (.nth (.get (.lvar 1) (.var 94) 6) (.vs 18 11 .nil)) (.bin .mul .i64 (.lit 8) (.var 104))))) .nil))))
(.stuck 58)))
.panic))))
(.br (.lt (.len (.lvar 106)) (.lit 1073741824))
(.br (.eq (.len (.lvar 106)) (.lit 64))
(.next 1 (.cons (.bin .sub .i64 (.var 17) (.lit 1)) (.vs 18 12 (.cons (.get (.lvar 106) (.lit 0) 0) (.cons (.get (.lvar 106) (.lit 1) 0) (.cons (.get (.lvar 106) (.lit 2) 0) (.cons (.get (.lvar 106) (.lit 3) 0) (.cons (.get (.lvar 106) (.lit 4) 0) (.cons (.get (.lvar 106) (.lit 5) 0) (.cons (.get (.lvar 106) (.lit 6) 0) (.cons (.get (.lvar 106) (.lit 7) 0) (.cons (.get (.lvar 106) (.lit 8) 0) (.cons (.get (.lvar 106) (.lit 9) 0) (.cons (.get (.lvar 106) (.lit 10) 0) (.cons (.get (.lvar 106) (.lit 11) 0) (.cons (.get (.lvar 106) (.lit 12) 0) (.cons (.get (.lvar 106) (.lit 13) 0) (.cons (.get (.lvar 106) (.lit 14) 0) (.cons (.get (.lvar 106) (.lit 15) 0) (.cons (.get (.lvar 106) (.lit 16) 0) (.cons (.get (.lvar 106) (.lit 17) 0) (.cons (.get (.lvar 106) (.lit 18) 0) (.cons (.get (.lvar 106) (.lit 19) 0) (.cons (.get (.lvar 106) (.lit 20) 0) (.cons (.get (.lvar 106) (.lit 21) 0) (.cons (.get (.lvar 106) (.lit 22) 0) (.cons (.get (.lvar 106) (.lit 23) 0) (.cons (.get (.lvar 106) (.lit 24) 0) (.cons (.get (.lvar 106) (.lit 25) 0) (.cons (.get (.lvar 106) (.lit 26) 0) (.cons (.get (.lvar 106) (.lit 27) 0) (.cons (.get (.lvar 106) (.lit 28) 0) (.cons (.get (.lvar 106) (.lit 29) 0) (.cons (.get (.lvar 106) (.lit 30) 0) (.cons (.get (.lvar 106) (.lit 31) 0) (.cons (.get (.lvar 106) (.lit 32) 0) (.cons (.get (.lvar 106) (.lit 33) 0) (.cons (.get (.lvar 106) (.lit 34) 0) (.cons (.get (.lvar 106) (.lit 35) 0) (.cons (.get (.lvar 106) (.lit 36) 0) (.cons (.get (.lvar 106) (.lit 37) 0) (.cons (.get (.lvar 106) (.lit 38) 0) (.cons (.get (.lvar 106) (.lit 39) 0) (.cons (.get (.lvar 106) (.lit 40) 0) (.cons (.get (.lvar 106) (.lit 41) 0) (.cons (.get (.lvar 106) (.lit 42) 0) (.cons (.get (.lvar 106) (.lit 43) 0) (.cons (.get (.lvar 106) (.lit 44) 0) (.cons (.get (.lvar 106) (.lit 45) 0) (.cons (.get (.lvar 106) (.lit 46) 0) (.cons (.get (.lvar 106) (.lit 47) 0) (.cons (.get (.lvar 106) (.lit 48) 0) (.cons (.get (.lvar 106) (.lit 49) 0) (.cons (.get (.lvar 106) (.lit 50) 0) (.cons (.get (.lvar 106) (.lit 51) 0) (.cons (.get (.lvar 106) (.lit 52) 0) (.cons (.get (.lvar 106) (.lit 53) 0) (.cons (.get (.lvar 106) (.lit 54) 0) (.cons (.get (.lvar 106) (.lit 55) 0) (.cons (.get (.lvar 106) (.lit 56) 0) (.cons (.get (.lvar 106) (.lit 57) 0) (.cons (.get (.lvar 106) (.lit 58) 0) (.cons (.get (.lvar 106) (.lit 59) 0) (.cons (.get (.lvar 106) (.lit 60) 0) (.cons (.get (.lvar 106) (.lit 61) 0) (.cons (.get (.lvar 106) (.lit 62) 0) (.cons (.get (.lvar 106) (.lit 63) 0) (.cons (.bin .add .i64 (.var 94) (.lit 1)) (.cons (.bin .add .i64 (.var 94) (.lit 1)) (.cons (.bin .add .i64 (.var 96) (.lit 1)) (.consl (.lvar 97) (.consl (.lvar 98) (.consl (.lvar 105) (.consl (.lvar 106) .nil))))))))))))))))))))))))))))))))))))))))))))))))))))))))))))))))))))))))))
(.stuck 225))
.panic))))))))
(.cut 6 103 []
(.cut 7 103 [.bool]
(.br (.lt (.bin .add .u64 (.nth (.get (.lvar 1) (.var 94) 5) (.vs 18 11 .nil)) (.var 102)) (.lit 4194304))
(.next 7 (.consb (.tt true) .nil))
(.br (.lt (.lit 0) (.bin .sub .u64 (.bin .add .u64 (.nth (.get (.lvar 1) (.var 94) 5) (.vs 18 11 .nil)) (.var 102)) (.lit 4194304)))
(.next 7 (.consb (.tt true) .nil))
(.next 7 (.consb (.lt (.bin .sub .u64 (.lit 0) (.bin .sub .u64 (.bin .add .u64 (.nth (.get (.lvar 1) (.var 94) 5) (.vs 18 11 .nil)) (.var 102)) (.lit 4194304))) (.conv .u64 (.conv .i64 (.get (.lvar 1) (.var 94) 3)))) .nil))))
(.br (.bvar 103)
(.next 6 .nil)
(.stuck 50)))
(.loop 7 103 [.int .i64,.list [some .u8],.list [some .u8]] (.cons (.lit 0) (.consl (.lvar 99) (.consl (.lvar 100) .nil)))
(.br (.lt (.var 103) (.lit 0))
(.br (.lt (.bin .mul .i64 (.lit 8) (.var 103)) (.lit 0))
.panic
.panic)
(.br (.lt (.len (.lvar 105)) (.lit 1073741824))
(.br (.eq (.len (.lvar 105)) (.lit 64))
(.br (.eq (.bin .add .i64 (.var 96) (.lit 1)) (.len (.lvar 14)))
(.call 11 [.bool] .nil 106
(.leaf (.consb (.bvar 106) .nil)))
(.leaf (.consb (.tt false) .nil)))
(.stuck 225))
.panic))))))))
.panic)))
.panic))
(.br (.eq (.get (.lvar 1) (.var 94) 0) (.lit 3))
(.br (.lt (.get (.lvar 1) (.var 94) 5) (.lit 0))
.panic
(.br (.lt (.get (.lvar 1) (.var 94) 5) (.lit 11))
(.call 1 [.int .u64] (.vs 18 11 (.cons (.get (.lvar 1) (.var 94) 0) (.cons (.get (.lvar 1) (.var 94) 1) (.cons (.get (.lvar 1) (.var 94) 2) (.cons (.get (.lvar 1) (.var 94) 3) (.consb (.getb (.lvar 1) (.var 94) 4) (.cons (.get (.lvar 1) (.var 94) 5) (.cons (.get (.lvar 1) (.var 94) 6) (.cons (.get (.lvar 1) (.var 94) 7) (.cons (.get (.lvar 1) (.var 94) 8) .nil)))))))))) 102
(.call 7 [.bool,.int .i64] (.cons (.get (.lvar 1) (.var 94) 1) (.cons (.lit 64) (.cons (.nth (.get (.lvar 1) (.var 94) 5) (.vs 18 11 .nil)) (.cons (.var 102) .nil)))) 103
(.br (.bvar 103)
(.call 4 [.int .i64,.bool] (.cons (.var 94) (.cons (.get (.lvar 1) (.var 94) 0) (.cons (.get (.lvar 1) (.var 94) 1) (.cons (.get (.lvar 1) (.var 94) 2) (.cons (.get (.lvar 1) (.var 94) 3) (.consb (.getb (.lvar 1) (.var 94) 4) (.cons (.get (.lvar 1) (.var 94) 5) (.cons (.get (.lvar 1) (.var 94) 6) (.cons (.get (.lvar 1) (.var 94) 7) (.cons (.get (.lvar 1) (.var 94) 8) .nil)))))))))) 105
(.next 1 (.cons (.bin .sub .i64 (.var 17) (.lit 1)) (.vs 18 76 (.cons (.var 105) (.cons (.var 105) (.cons (.bin .add .i64 (.var 96) (.lit 1)) (.consl (.lvar 97) (.consl (.lvar 98) (.consl (.lvar 99) (.consl (.lvar 100) .nil)))))))))))
(.next 1 (.cons (.bin .sub .i64 (.var 17) (.lit 1)) (.vs 18 76 (.cons (.bin .add .i64 (.var 94) (.lit 1)) (.cons (.bin .add .i64 (.var 94) (.lit 1)) (.cons (.bin .add .i64 (.var 96) (.lit 1)) (.consl (.lvar 97) (.consl (.lvar 98) (.consl (.lvar 99) (.consl (.lvar 100) .nil)))))))))))))
.panic))
(.br (.eq (.get (.lvar 1) (.var 94) 0) (.lit 4))
(.call 4 [.int .i64,.bool] (.cons (.var 94) (.cons (.get (.lvar 1) (.var 94) 0) (.cons (.get (.lvar 1) (.var 94) 1) (.cons (.get (.lvar 1) (.var 94) 2) (.cons (.get (.lvar 1) (.var 94) 3) (.consb (.getb (.lvar 1) (.var 94) 4) (.cons (.get (.lvar 1) (.var 94) 5) (.cons (.get (.lvar 1) (.var 94) 6) (.cons (.get (.lvar 1) (.var 94) 7) (.cons (.get (.lvar 1) (.var 94) 8) .nil)))))))))) 102
(.next 1 (.cons (.bin .sub .i64 (.var 17) (.lit 1)) (.vs 18 76 (.cons (.var 102) (.cons (.var 102) (.cons (.bin .add .i64 (.var 96) (.lit 1)) (.consl (.lvar 97) (.consl (.lvar 98) (.consl (.lvar 99) (.consl (.lvar 100) .nil)))))))))))
(.br (.eq (.get (.lvar 1) (.var 94) 0) (.lit 5))
(.br (.eq (.len (.lvar 97)) (.lit 0))
(.br (.eq (.bin .add .i64 (.var 96) (.lit 1)) (.len (.lvar 14)))
(.call 11 [.bool] .nil 102
(.leaf (.consb (.bvar 102) .nil)))
(.leaf (.consb (.tt false) .nil)))
(.call 5 [.int .i64] (.cons (.get (.lvar 1) (.var 94) 8) .nil) 102
(.br (.lt (.bin .add .i64 (.lit 1) (.var 102)) (.lit 1))
.panic
(.br (.lt (.lit 11) (.bin .add .i64 (.lit 1) (.var 102)))
.panic
(.br (.lt (.lit 0) (.len (.lvar 97)))
(.br (.lt (.lit 5) (.len (.ldrop (.ltake (.lapp (.lapp (.lapp (.lapp (.lapp (.lapp (.lapp (.lapp (.lapp (.lapp (.lapp .lnil (.cons (.var 18) .nil)) (.cons (.var 19) .nil)) (.cons (.var 20) .nil)) (.cons (.var 21) .nil)) (.cons (.var 22) .nil)) (.cons (.var 23) .nil)) (.cons (.var 24) .nil)) (.cons (.var 25) .nil)) (.cons (.var 26) .nil)) (.cons (.var 27) .nil)) (.cons (.var 28) .nil)) (.bin .add .i64 (.lit 1) (.var 102))) (.lit 1))))
(.stuck 220)
(.br (.lt (.len (.lvar 98)) (.lit 1073741824))
(.br (.lt (.len (.lvar 97)) (.lit 1))
.panic
(.next 1 (.cons (.bin .sub .i64 (.var 17) (.lit 1)) (.cons (.get (.lvar 97) (.lit 0) 0) (.cons (.lit 0) (.cons (.lit 0) (.cons (.lit 0) (.cons (.lit 0) (.cons (.lit 0) (.vs 24 5 (.cons (.bin .andNot .i64 (.bin .andNot .i64 (.bin .andNot .i64 (.bin .andNot .i64 (.bin .andNot .i64 (.bin .or .i64 (.var 29) (.lit 1)) (.lit 2)) (.lit 4)) (.lit 8)) (.lit 16)) (.lit 32)) (.vs 30 64 (.cons (.bin .add .i64 (.var 94) (.lit 1)) (.cons (.bin .add .i64 (.var 94) (.lit 1)) (.cons (.bin .add .i64 (.var 96) (.lit 1)) (.consl (.ldrop (.lvar 97) (.lit 1)) (.consl (.lapp (.lvar 98) (.cons (.get (.lvar 1) (.var 94) 8) (.cons (.get (.lvar 97) (.lit 0) 0) (.cons (.conv .i64 (.len (.ldrop (.ltake (.lapp (.lapp (.lapp (.lapp (.lapp (.lapp (.lapp (.lapp (.lapp (.lapp (.lapp .lnil (.cons (.var 18) .nil)) (.cons (.var 19) .nil)) (.cons (.var 20) .nil)) (.cons (.var 21) .nil)) (.cons (.var 22) .nil)) (.cons (.var 23) .nil)) (.cons (.var 24) .nil)) (.cons (.var 25) .nil)) (.cons (.var 26) .nil)) (.cons (.var 27) .nil)) (.cons (.var 28) .nil)) (.bin .add .i64 (.lit 1) (.var 102))) (.lit 1)))) (.cons (.get (.ldrop (.ltake (.lapp (.lapp (.lapp (.lapp (.lapp (.lapp (.lapp (.lapp (.lapp (.lapp (.lapp .lnil (.cons (.var 18) .nil)) (.cons (.var 19) .nil)) (.cons (.var 20) .nil)) (.cons (.var 21) .nil)) (.cons (.var 22) .nil)) (.cons (.var 23) .nil)) (.cons (.var 24) .nil)) (.cons (.var 25) .nil)) (.cons (.var 26) .nil)) (.cons (.var 27) .nil)) (.cons (.var 28) .nil)) (.bin .add .i64 (.lit 1) (.var 102))) (.lit 1)) (.lit 0) 0) (.cons (.get (.ldrop (.ltake (.lapp (.lapp (.lapp (.lapp (.lapp (.lapp (.lapp (.lapp (.lapp (.lapp (.lapp .lnil (.cons (.var 18) .nil)) (.cons (.var 19) .nil)) (.cons (.var 20) .nil)) (.cons (.var 21) .nil)) (.cons (.var 22) .nil)) (.cons (.var 23) .nil)) (.cons (.var 24) .nil)) (.cons (.var 25) .nil)) (.cons (.var 26) .nil)) (.cons (.var 27) .nil)) (.cons (.var 28) .nil)) (.bin .add .i64 (.lit 1) (.var 102))) (.lit 1)) (.lit 1) 0) (.cons (.get (.ldrop (.ltake (.lapp (.lapp (.lapp (.lapp (.lapp (.lapp (.lapp (.lapp (.lapp (.lapp (.lapp .lnil (.cons (.var 18) .nil)) (.cons (.var 19) .nil)) (.cons (.var 20) .nil)) (.cons (.var 21) .nil)) (.cons (.var 22) .nil)) (.cons (.var 23) .nil)) (.cons (.var 24) .nil)) (.cons (.var 25) .nil)) (.cons (.var 26) .nil)) (.cons (.var 27) .nil)) (.cons (.var 28) .nil)) (.bin .add .i64 (.lit 1) (.var 102))) (.lit 1)) (.lit 2) 0) (.cons (.get (.ldrop (.ltake (.lapp (.lapp (.lapp (.lapp (.lapp (.lapp (.lapp (.lapp (.lapp (.lapp (.lapp .lnil (.cons (.var 18) .nil)) (.cons (.var 19) .nil)) (.cons (.var 20) .nil)) (.cons (.var 21) .nil)) (.cons (.var 22) .nil)) (.cons (.var 23) .nil)) (.cons (.var 24) .nil)) (.cons (.var 25) .nil)) (.cons (.var 26) .nil)) (.cons (.var 27) .nil)) (.cons (.var 28) .nil)) (.bin .add .i64 (.lit 1) (.var 102))) (.lit 1)) (.lit 3) 0) (.cons (.get (.ldrop (.ltake (.lapp (.lapp (.lapp (.lapp (.lapp (.lapp (.lapp (.lapp (.lapp (.lapp (.lapp .lnil (.cons (.var 18) .nil)) (.cons (.var 19) .nil)) (.cons (.var 20) .nil)) (.cons (.var 21) .nil)) (.cons (.var 22) .nil)) (.cons (.var 23) .nil)) (.cons (.var 24) .nil)) (.cons (.var 25) .nil)) (.cons (.var 26) .nil)) (.cons (.var 27) .nil)) (.cons (.var 28) .nil)) (.bin .add .i64 (.lit 1) (.var 102))) (.lit 1)) (.lit 4) 0) .nil))))))))) (.consl (.lvar 99) (.consl (.lvar 100) .nil)))))))))))))))))))
.panic))
.panic)))))
(.br (.eq (.get (.lvar 1) (.var 94) 0) (.lit 6))
(.br (.eq (.bin .add .i64 (.var 96) (.lit 1)) (.len (.lvar 14)))
(.call 11 [.bool] .nil 102
(.leaf (.consb (.bvar 102) .nil)))
(.leaf (.consb (.tt false) .nil)))
.panic)))))))
(.br (.eq (.bin .add .i64 (.var 96) (.lit 1)) (.len (.lvar 14)))
(.call 11 [.bool] .nil 102
(.leaf (.consb (.bvar 102) .nil)))
(.leaf (.consb (.tt false) .nil)))))
.panic)))
(.leaf (.consb (.tt false) .nil)))
.panic)
(.leaf (.consb (.tt false) .nil))))
(.leaf (.consb (.tt false) .nil)))
(.br (.eq (.var 96) (.len (.lvar 14)))
(.call 11 [.bool] .nil 101
(.leaf (.consb (.bvar 101) .nil)))
(.br (.eq (.var 96) (.var 5))
(.call 11 [.bool] .nil 101
(.leaf (.consb (.bvar 101) .nil)))
(.leaf (.consb (.tt false) .nil))))))
.panic))))
(.br (.eq (.lit 0) (.len (.lvar 14)))
(.call 11 [.bool] .nil 17
(.leaf (.consb (.bvar 17) .nil)))
(.br (.eq (.lit 0) (.var 5))
(.call 11 [.bool] .nil 17
(.leaf (.consb (.bvar 17) .nil)))
(.leaf (.consb (.tt false) .nil)))))
(.br (.eq (.lit 0) (.len (.lvar 14)))
(.call 11 [.bool] .nil 17
(.leaf (.consb (.bvar 17) .nil)))
(.br (.eq (.lit 0) (.var 5))
(.call 11 [.bool] .nil 17
(.leaf (.consb (.bvar 17) .nil)))
(.leaf (.consb (.tt false) .nil))))))))))))
def qE:Spec:=⟨fun k=>match k with | 0=>dh | 1=>fg | 2=>fh | 3=>ct | 4=>dl | 5=>cg | 6=>dU | 7=>sF_holds | 8=>dg | 9=>cr | 10=>dP | 11=>dO | _=>fun _=>[],fun k=>match k with | 1=>ff | 2=>dM | 3=>bS | 8=>cH | 9=>cq | 10=>cT | _=>fun _=>True⟩
set_option maxRecDepth 100000 in
theorem yk:aM tys_MrI [jw 0,lU 1,lV 2,fP 3,jE 4,fQ 5,gM 6,sM_holds 7,iP 8,fO 9,jy 10,jx 11] [(38,Try.f38,[(999999,[]),(999998,[])],[]),(58,Try.f58,[(999999,[]),(999998,[])],[]),(59,Try.f59,[(999999,[]),(999998,[])],[]),(60,Try.f60,[(999999,[]),(999998,[])],[]),(61,Try.f61,[(999999,[]),(999998,[])],[]),(62,Try.f62,[(999999,[]),(999998,[])],[]),(63,Try.f63,[(999999,[]),(999998,[])],[]),(64,Try.f64,[(999999,[]),(999998,[])],[]),(36,Try.f36,[(999999,[]),(999998,[])],[]),(88,Try.f88,[(999999,[]),(999998,[])],[(5,[.top 15,.top 18,.top 16,.top 17,.top 8,.top 9,.top 19,.top 20,.top 21,.top 22,.top 23,.top 24,.top 25,.top 26,.top 27,.top 28,.top 29,.top 30,.top 31,.top 32]),(13,[.top 13,.top 14,.top 35,.top 10,.top 36,.top 37,.top 38,.top 39,.top 40,.top 11,.top 41,.top 42,.top 12,.top 44,.top 45,.top 46,.top 47,.top 43,.top 48,.top 49,.top 50,.top 51,.top 52,.top 53,.top 54,.top 55,.top 56,.top 57,.top 58,.top 59,.top 60,.top 61,.top 8,.top 9])]),(105,Try.f105,[(999999,[]),(999998,[])],[(3,[.tmpB 43,.top 15,.top 16,.top 17,.top 18,.top 19,.top 20,.top 21,.top 22,.top 23,.top 24,.top 25,.top 26,.top 27,.top 28,.top 29,.top 30,.top 31,.top 32,.top 33,.top 34,.top 35,.top 36,.top 37,.top 38,.top 39,.top 40,.top 41,.top 42])]),(78,Try.f78,[(999999,[]),(999998,[])],[]),(39,Try.f39,[(999999,[]),(999998,[])],[]),(57,Try.f57,[(999999,[]),(999998,[])],[]),(77,Try.f77,[(3,[.tmpI 21 .i64,.row 28,.row 29,.top 22,.top 23,.top 11,.top 24,.top 25,.top 26,.top 27,.top 28,.top 29,.top 30,.top 31,.top 32]),(999999,[]),(999998,[])],[]),(23,Try.f23,[(999999,[]),(999998,[])],[]),(35,Try.f35,[(999999,[]),(999998,[])],[]),(24,Try.f24,[(999999,[]),(999998,[])],[]),(17,Try.f17,[(999999,[]),(999998,[])],[]),(32,Try.f32,[(999999,[]),(999998,[])],[]),(37,Try.f37,[(2,[.celI 31 0 .i64,.cels 30 3 [some .u64,some .u64,some .u64,some .u64,some .u64,some .u64,some .u64,some .u64,some .u64,some .u64,some .u64,some .i64,some .u8,some .u8,some .u8,some .u8,some .u8,some .u8,some .u8,some .u8,some .u8,some .u8,some .u8,some .u8,some .u8,some .u8,some .u8,some .u8,some .u8,some .u8,some .u8,some .u8,some .u8,some .u8,some .u8,some .u8,some .u8,some .u8,some .u8,some .u8,some .u8,some .u8,some .u8,some .u8,some .u8,some .u8,some .u8,some .u8,some .u8,some .u8,some .u8,some .u8,some .u8,some .u8,some .u8,some .u8,some .u8,some .u8,some .u8,some .u8,some .u8,some .u8,some .u8,some .u8,some .u8,some .u8,some .u8,some .u8,some .u8,some .u8,some .u8,some .u8,some .u8,some .u8,some .u8,some .u8,some .i64,some .i64],.celI 19 0 .i64,.celV 30 81 [some .u64] 30,.celS 30 82 evKs 39,.row 28,.row 29,.top 11,.top 12,.top 13,.top 14,.top 15,.top 16,.top 17,.top 18,.top 19,.top 20,.top 21,.top 22,.top 23,.top 24,.top 25,.top 26,.top 27,.top 28,.top 29,.top 30,.top 31,.top 32,.top 33]),(999999,[]),(999998,[])],[]),(9,Try.f9,[(999999,[]),(999998,[])],[])] [(999999,[]),(999998,[])] [(6,[.celS 11 0 [some .i64] 3,.gone 7,.top 25,.top 30,.top 31,.top 35,.top 36])] 200 Try.f5 [.agg kD,.one (.sl [some .u8] 5),.one (.sl [some .u64] 30),.one (.int .i64),.one (.int .i64)] [.one .bool] false [.int .i64,.list [some .i8,some .i8,some .i8,some .i8,none,some .i8,some .i8,some .i64,some .i64],.list [some .u8],.list [some .u64],.int .i64,.int .i64] sT_leach:=⟨by kernel_rfl,by kernel_rfl,by kernel_rfl⟩
set_option maxRecDepth 100000 in
set_option maxHeartbeats 8000000 in
theorem yc (p:Prog) (hp:Prog.ok p) (cx:List (List Int)) (hcx:RowsIn [some .u8] cx) (an:List (List Int)) (han:RowsIn [some .u64] an) (fu:Int) (hfu:inK .i64 fu=true) (lv:Int) (hlv:inK .i64 lv=true) (ρ:Env) (g:ah ρ 0 [.int .i64,.list [some .i8,some .i8,some .i8,some .i8,none,some .i8,some .i8,some .i64,some .i64],.list [some .u8],.list [some .u64],.int .i64,.int .i64]=[.z p.ctx,.l p.l,.l cx,.l an,.z fu,.z lv]):sT_leach.asks qE (fun ρ e=>e.D ρ=lZ [.z p.ctx,.l p.l,.l cx,.l an,.z fu,.z lv]) ρ fun _ _=>False:=by
 have keepg:=g
 simp only[ah,varD,List.cons.injEq,Dt.z.injEq,Dt.l.injEq,b2i_eq_iff,Nat.reduceAdd,and_true] at g
 simp only[sT_leach,qE,kOut,dh,fg,fh,ct,dl,cg,dU,sF_holds,dg,cr,dP,dO,jl,lQ,lR,fL,jt,fM,gI,sV_holds,iL,fK,jn,lZ,qA,ff,dM,bS,cH,cq,cT,Tr.asks,am,okDs,okD,eqs,E.I,E.B,E.L,E.R,E.D,E.vs,dI,dB,dL,varD,ah,List.getElem?_cons_zero,List.getElem?_cons_succ,List.cons_append,List.nil_append,Nat.zero_add,Nat.add_zero,Nat.reduceAdd,and_true,true_and,b2i_one,-eq_self,Ins.eta,Prog.eta,aa,Mem.eta,Mach.eta,g]
 obtain⟨k0_i0,k0_l1,k0_l2,k0_l3,k0_i4,k0_i5⟩:=g
 have hpl:=hp.2.len
 refine⟨fun c0=> ?_,fun c0=> ?_⟩
 intro e; (try simp only[e,Ins.eta,Prog.eta,aa,Mem.eta,Mach.eta,-eq_self]); clear e
 ·rfl
 refine⟨fun c1=> ?_,fun c1=> ?_⟩
 intro e; (try simp only[e,Ins.eta,Prog.eta,aa,Mem.eta,Mach.eta,-eq_self]); clear e
 ·rfl
 refine⟨fun c2=> ?_,fun c2=> ?_⟩
 intro e; (try simp only[e,Ins.eta,Prog.eta,aa,Mem.eta,Mach.eta,-eq_self]); clear e
 ·rfl
 refine⟨fun c3=> ?_,fun c3=> ?_⟩
 refine⟨fun c4=> ?_,fun c4=> ?_⟩
 refine⟨?_,?_⟩
 ·exact⟨⟨hp.2.len,hcx.len⟩,han.len⟩
 intro e; have⟨k0_l6,k0_l7,k0_i8,k0_i9,k0_l10,k0_l11,k0_i12,k0_i13⟩:=e; (try simp only[e,Ins.eta,Prog.eta,aa,Mem.eta,Mach.eta,-eq_self]); clear e
 refine⟨fun ds=>ds=[.l (bJ p cx an fu).1],?_,?_⟩
 refine⟨fun c5=> ?_,fun c5=> ?_⟩
 ·rfl
 ·rw[cy rfl (rD (neI c5))]
 intro ρ1 ha1 _ hi1
 simp only[List.cons.injEq,Dt.z.injEq,Dt.l.injEq,b2i_eq_iff,and_true] at hi1
 have k1_l14:=hi1
 have k1_i0:=kI ha1 k0_i0
 have k1_l1:=kL ha1 k0_l1
 have k1_l2:=kL ha1 k0_l2
 have k1_l3:=kL ha1 k0_l3
 have k1_i4:=kI ha1 k0_i4
 have k1_i5:=kI ha1 k0_i5
 have k1_l7:=kL ha1 k0_l7
 simp only[k1_i0,k1_l1,k1_l2,k1_l3,k1_i4,k1_i5,k1_l7,k1_l14,aa,-eq_self]
 refine⟨?_,?_⟩
 ·exact hpl
 intro e; (try simp only[e,Ins.eta,Prog.eta,aa,Mem.eta,Mach.eta,-eq_self]); clear e
 refine⟨fun c6=> ?_,fun c6=> ?_⟩
 refine⟨fun c7=> ?_,fun c7=> ?_⟩
 refine⟨fun c8=> ?_,fun c8=> ?_⟩
 refine⟨fun c9=> ?_,fun c9=> ?_⟩
 intro e; (try simp only[e,Ins.eta,Prog.eta,aa,Mem.eta,Mach.eta,-eq_self]); clear e
 ·rfl
 refine⟨fun c10=> ?_,fun c10=> ?_⟩
 intro e; (try simp only[e,Ins.eta,Prog.eta,aa,Mem.eta,Mach.eta,-eq_self]); clear e
 ·rfl
 ·exact absurd (fY fun h=>(by have q:=bn h; have:=of_decide_eq_true c4; omega)) (neI c9)
 refine⟨fun c11=> ?_,fun c11=> ?_⟩
 intro e; (try simp only[e,Ins.eta,Prog.eta,aa,Mem.eta,Mach.eta,-eq_self]); clear e
 ·rfl
 refine⟨fun c12=> ?_,fun c12=> ?_⟩
 intro e; (try simp only[e,Ins.eta,Prog.eta,aa,Mem.eta,Mach.eta,-eq_self]); clear e
 ·rfl
 ·exact absurd (fY fun h=>(by have q:=bn h; have:=of_decide_eq_true c4; omega)) (neI c11)
 refine⟨fun c13=> ?_,fun c13=> ?_⟩
 intro e; (try simp only[e,Ins.eta,Prog.eta,aa,Mem.eta,Mach.eta,-eq_self]); clear e
 ·rfl
 refine⟨fun c14=> ?_,fun c14=> ?_⟩
 intro e; (try simp only[e,Ins.eta,Prog.eta,aa,Mem.eta,Mach.eta,-eq_self]); clear e
 ·rfl
 ·exact absurd (fY fun h=>(by have q:=bn h; have:=of_decide_eq_true c4; omega)) (neI c13)
 refine⟨fun c15=> ?_,fun c15=> ?_⟩
 intro e; (try simp only[e,Ins.eta,Prog.eta,aa,Mem.eta,Mach.eta,-eq_self]); clear e
 ·rfl
 refine⟨fun c16=> ?_,fun c16=> ?_⟩
 intro e; (try simp only[e,Ins.eta,Prog.eta,aa,Mem.eta,Mach.eta,-eq_self]); clear e
 ·rfl
 ·exact absurd (fY fun h=>(by have q:=bn h; have:=of_decide_eq_true c4; omega)) (neI c15)
 intro e; (try simp only[e,Ins.eta,Prog.eta,aa,Mem.eta,Mach.eta,-eq_self]); clear e
 ·rfl
 refine⟨?_,?_⟩
 ·exact⟨⟨hp.2.len,hcx.len⟩,han.len⟩
 intro e; have⟨k0_l6,k0_l7,k0_i8,k0_i9,k0_l10,k0_l11,k0_i12,k0_i13⟩:=e; (try simp only[e,Ins.eta,Prog.eta,aa,Mem.eta,Mach.eta,-eq_self]); clear e
 refine⟨fun ds=>ds=[.l (bJ p cx an fu).1],?_,?_⟩
 refine⟨fun c17=> ?_,fun c17=> ?_⟩
 ·rfl
 ·rw[cy rfl (rD (neI c17))]
 intro ρ1 ha1 _ hi1
 simp only[List.cons.injEq,Dt.z.injEq,Dt.l.injEq,b2i_eq_iff,and_true] at hi1
 have k1_l14:=hi1
 have k1_i0:=kI ha1 k0_i0
 have k1_l1:=kL ha1 k0_l1
 have k1_l2:=kL ha1 k0_l2
 have k1_l3:=kL ha1 k0_l3
 have k1_i4:=kI ha1 k0_i4
 have k1_i5:=kI ha1 k0_i5
 have k1_l7:=kL ha1 k0_l7
 simp only[k1_i0,k1_l1,k1_l2,k1_l3,k1_i4,k1_i5,k1_l7,k1_l14,aa,-eq_self]
 refine⟨?_,?_⟩
 ·exact hpl
 intro e; (try simp only[e,Ins.eta,Prog.eta,aa,Mem.eta,Mach.eta,-eq_self]); clear e
 refine⟨fun c18=> ?_,fun c18=> ?_⟩
 refine⟨fun c19=> ?_,fun c19=> ?_⟩
 refine⟨fun c20=> ?_,fun c20=> ?_⟩
 refine⟨fun c21=> ?_,fun c21=> ?_⟩
 intro e; (try simp only[e,Ins.eta,Prog.eta,aa,Mem.eta,Mach.eta,-eq_self]); clear e
 ·rfl
 refine⟨fun c22=> ?_,fun c22=> ?_⟩
 intro e; (try simp only[e,Ins.eta,Prog.eta,aa,Mem.eta,Mach.eta,-eq_self]); clear e
 ·rfl
 ·exact absurd (fY fun h=>(by have q:=bn h; have:=of_decide_eq_true c20; omega)) (neI c21)
 refine⟨fun c23=> ?_,fun c23=> ?_⟩
 refine⟨fun c24=> ?_,fun c24=> ?_⟩
 intro e; (try simp only[e,Ins.eta,Prog.eta,aa,Mem.eta,Mach.eta,-eq_self]); clear e
 ·rfl
 refine⟨fun c25=> ?_,fun c25=> ?_⟩
 intro e; (try simp only[e,Ins.eta,Prog.eta,aa,Mem.eta,Mach.eta,-eq_self]); clear e
 ·rfl
 ·exact absurd (fY fun h=>(by have q:=bn h; have:=of_decide_eq_true c23; omega)) (neI c24)
 refine⟨fun c26=> ?_,fun c26=> ?_⟩
 refine⟨fun c27=> ?_,fun c27=> ?_⟩
 intro e; (try simp only[e,Ins.eta,Prog.eta,aa,Mem.eta,Mach.eta,-eq_self]); clear e
 ·rfl
 refine⟨fun c28=> ?_,fun c28=> ?_⟩
 intro e; (try simp only[e,Ins.eta,Prog.eta,aa,Mem.eta,Mach.eta,-eq_self]); clear e
 ·rfl
 ·exact absurd (fY fun h=>(by have q:=bn h; have:=kh q.1; have:=of_decide_eq_true c26; omega)) (neI c27)
 refine⟨fun c29=> ?_,fun c29=> ?_⟩
 have hok:=eqI c18
 have hf:0≤fu∧fu≤10000:=by have:=of_decide_eq_false c20; have:=of_decide_eq_false c23; omega
 have hcx:cx.length≤256:=by have:=of_decide_eq_false c26; omega
 have hI:=cA hpl hok
 have hop:bq p cx fu=0:=py hok (eqI c19) hf.1 hf.2
 refine⟨EInv p cx an fu,fun ds=>(dI ds 0).toNat,EAt.init (cx:=cx) (an:=an) hf.1 hI.1.2.1,?_⟩
 intro ρ2 ha2 hx2 hi2
 clear hx2
 have hE:EAt p cx an fu (ρ2.i 17) (ρ2.i 96) ⟨[ρ2.i 18,ρ2.i 19,ρ2.i 20,ρ2.i 21,ρ2.i 22,ρ2.i 23,ρ2.i 24,ρ2.i 25,ρ2.i 26,ρ2.i 27,ρ2.i 28],ρ2.i 29,ρ2.i 94,ρ2.l 97,ρ2.l 98,ρ2.l 99,ρ2.l 100⟩ (frI ρ2 30):=hi2
 clear hi2
 obtain⟨left,k2_i17⟩:∃z,ρ2.i 17=z:=⟨_,rfl⟩
 obtain⟨r0,k2_i18⟩:∃z,ρ2.i 18=z:=⟨_,rfl⟩
 obtain⟨r1,k2_i19⟩:∃z,ρ2.i 19=z:=⟨_,rfl⟩
 obtain⟨r2,k2_i20⟩:∃z,ρ2.i 20=z:=⟨_,rfl⟩
 obtain⟨r3,k2_i21⟩:∃z,ρ2.i 21=z:=⟨_,rfl⟩
 obtain⟨r4,k2_i22⟩:∃z,ρ2.i 22=z:=⟨_,rfl⟩
 obtain⟨r5,k2_i23⟩:∃z,ρ2.i 23=z:=⟨_,rfl⟩
 obtain⟨r6,k2_i24⟩:∃z,ρ2.i 24=z:=⟨_,rfl⟩
 obtain⟨r7,k2_i25⟩:∃z,ρ2.i 25=z:=⟨_,rfl⟩
 obtain⟨r8,k2_i26⟩:∃z,ρ2.i 26=z:=⟨_,rfl⟩
 obtain⟨r9,k2_i27⟩:∃z,ρ2.i 27=z:=⟨_,rfl⟩
 obtain⟨r10,k2_i28⟩:∃z,ρ2.i 28=z:=⟨_,rfl⟩
 obtain⟨st,k2_i29⟩:∃z,ρ2.i 29=z:=⟨_,rfl⟩
 obtain⟨pc,k2_i94⟩:∃z,ρ2.i 94=z:=⟨_,rfl⟩
 obtain⟨a1,k2_l97⟩:∃z,ρ2.l 97=z:=⟨_,rfl⟩
 obtain⟨t1,k2_l98⟩:∃z,ρ2.l 98=z:=⟨_,rfl⟩
 obtain⟨c1,k2_l99⟩:∃z,ρ2.l 99=z:=⟨_,rfl⟩
 obtain⟨f1,k2_l100⟩:∃z,ρ2.l 100=z:=⟨_,rfl⟩
 obtain⟨n1,k2_i96⟩:∃z,ρ2.i 96=z:=⟨_,rfl⟩
 simp only[k2_i17,k2_i18,k2_i19,k2_i20,k2_i21,k2_i22,k2_i23,k2_i24,k2_i25,k2_i26,k2_i27,k2_i28,k2_i29,k2_i94,k2_l97,k2_l98,k2_l99,k2_l100,k2_i96] at hE
 have hR:=hE.run
 have k2_l1:=kL ha2 k1_l1
 have k2_i5:=kI ha2 k1_i5
 have k2_l7:=kL ha2 k1_l7
 have k2_l14:=kL ha2 k1_l14
 have k2_l14:=k2_l14.trans (tf hop)
 have k2_l7:=k2_l7.trans (te hop)
 obtain⟨PL,hPL⟩:∃L,aW p fu.toNat (ms0 cx an)=L:=⟨_,rfl⟩
 obtain⟨SL,hSL⟩:∃L,eN p fu.toNat (ms0 cx an)=L:=⟨_,rfl⟩
 have hln:SL.length=PL.length:=by rw[←hPL,←hSL,nB]
 have hH:=fun h=>hE.here h
 have hEnd:=fun(h:0<left) (k:Int) (hh:halt p ⟨[r0,r1,r2,r3,r4,r5,r6,r7,r8,r9,r10],st,pc,a1,t1,c1,f1⟩=k) (hk:k≠0)=>hE.end hf.2 h hh hk
 have hOut:=fun h=>hE.out h
 simp only[hPL,hSL] at k2_l14 k2_l7 hH hEnd hOut
 have h256:c1.length≤256:=by have:=hR.cxl; exact Nat.le_trans (Nat.le_of_eq this) hcx
 have hfit:=zS h256 hR.fm
 have q0:0≤pc:=hR.pc0
 have q1:pc<(p.l.length:Int):=hR.pc1
 have q2:f1.length=64:=hR.fm
 have q4:(t1.length:Int)+left≤fu:=hR.tr
 have q5:=hR.lo
 have q6:=hR.hi
 have q9:=hE.nn
 simp only[k2_l1,k2_i5,k2_l7,k2_l14,k2_i17,k2_i18,k2_i19,k2_i20,k2_i21,k2_i22,k2_i23,k2_i24,k2_i25,k2_i26,k2_i27,k2_i28,k2_i29,k2_i94,k2_l97,k2_l98,k2_l99,k2_l100,k2_i96,aa,bm,-eq_self]
 refine⟨fun c30=> ?_,fun c30=> ?_⟩
 refine⟨fun c31=> ?_,fun c31=> ?_⟩
 refine⟨fun c32=> ?_,fun c32=> ?_⟩
 ·exact absurd (of_decide_eq_true c32) (by omega)
 refine⟨fun c33=> ?_,fun c33=> ?_⟩
 refine⟨fun c34=> ?_,fun c34=> ?_⟩
 refine⟨fun c35=> ?_,fun c35=> ?_⟩
 refine⟨fun c36=> ?_,fun c36=> ?_⟩
 refine⟨fun c37=> ?_,fun c37=> ?_⟩
 intro e; (try simp only[e,Ins.eta,Prog.eta,aa,Mem.eta,Mach.eta,-eq_self]); clear e
 ·rfl
 intro e; (try simp only[e,Ins.eta,Prog.eta,aa,Mem.eta,Mach.eta,-eq_self]); clear e
 ·rfl
 refine⟨fun c38=> ?_,fun c38=> ?_⟩
 ·exact absurd (of_decide_eq_true c38) (by omega)
 refine⟨fun c39=> ?_,fun c39=> ?_⟩
 refine⟨?_,?_⟩
 ·exact aj hpl hok hR.pc0 hR.pc1
 intro e; (try simp only[e,Ins.eta,Prog.eta,aa,Mem.eta,Mach.eta,-eq_self]); clear e
 refine⟨fun c40=> ?_,fun c40=> ?_⟩
 refine⟨fun c41=> ?_,fun c41=> ?_⟩
 refine⟨fun c42=> ?_,fun c42=> ?_⟩
 ·have hmay:=aj hpl hok q0 q1
  have hd:=aK hmay
  exact absurd (of_decide_eq_true c42) (by omega)
 refine⟨fun c43=> ?_,fun c43=> ?_⟩
 refine⟨?_,?_⟩
 ·exact fun _=>(by have hd:=aZ (aj hpl hok hR.pc0 hR.pc1); exact⟨hd.2.2.1,hd.2.2.2.1⟩)
 intro e; (try simp only[e,Ins.eta,Prog.eta,aa,Mem.eta,Mach.eta,-eq_self]); clear e
 intro e; (try simp only[e,Ins.eta,Prog.eta,aa,Mem.eta,Mach.eta,-eq_self]); clear e
 ·have hmay:=aj hpl hok q0 q1
  have hd:=aK hmay
  have hk:(ae p.l pc).k=0:=eqI c41
  have hw:opI .andNot .i64 (ai (ae p.l pc)) st=0:=eqI c40
  exact EAt.go hE hpl hok hf.2 (of_decide_eq_true c30) (dD hw (.inl hk)) (go11 (abk hk) hd.1 hd.2.1) rfl rfl (hE.fr)
 ·have hmay:=aj hpl hok q0 q1
  have hd:=aK hmay
  exact absurd (of_decide_eq_false c43) (by omega)
 refine⟨fun c44=> ?_,fun c44=> ?_⟩
 refine⟨fun c45=> ?_,fun c45=> ?_⟩
 ·have hmay:=aj hpl hok q0 q1
  have hd:=aK hmay
  exact absurd (of_decide_eq_true c45) (by omega)
 refine⟨fun c46=> ?_,fun c46=> ?_⟩
 intro e; have k2_i102:ρ2.i 102=IntKind.u64.wrap (gt p.l pc 7):=e.trans (by simp only[k2_l1,k2_i94]); (try simp only[e,Ins.eta,Prog.eta,aa,Mem.eta,Mach.eta,-eq_self]); clear e
 refine⟨?_,?_⟩
 ·exact hfit
 intro e; (try simp only[e,Ins.eta,Prog.eta,aa,Mem.eta,Mach.eta,-eq_self]); clear e
 refine⟨fun c47=> ?_,fun c47=> ?_⟩
 refine⟨fun c48=> ?_,fun c48=> ?_⟩
 ·have hmay:=aj hpl hok q0 q1
  have hd:=aK hmay
  exact absurd (of_decide_eq_true c48) (by omega)
 refine⟨fun c49=> ?_,fun c49=> ?_⟩
 ·have hmay:=aj hpl hok q0 q1
  have hd:=aK hmay
  have hk:(ae p.l pc).k=1:=eqI c44
  have hw:opI .andNot .i64 (ai (ae p.l pc)) st=0:=eqI c40
  have h16:=eqI c47
  exact EAt.go hE hpl hok hf.2 (of_decide_eq_true c30) (pO hw hk h16) (go11 (abj hk) hd.1 hd.2.1) rfl rfl (hE.fr)
 ·have hmay:=aj hpl hok q0 q1
  have hd:=aK hmay
  exact absurd (of_decide_eq_false c49) (by omega)
 refine⟨fun c50=> ?_,fun c50=> ?_⟩
 intro e; (try simp only[e,Ins.eta,Prog.eta,aa,Mem.eta,Mach.eta,-eq_self]); clear e
 ·rfl
 ·have hk:(ae p.l pc).k=1:=eqI c44
  have hw:opI .andNot .i64 (ai (ae p.l pc)) st=0:=eqI c40
  have h16:=neI c47
  have hx:=hEnd (of_decide_eq_true c30) _ (pN hw hk h16) (by decide)
  exact absurd hx (by first | exact neI c50 | (rw[bm]; exact neI c50))
 ·have hmay:=aj hpl hok q0 q1
  have hd:=aK hmay
  exact absurd (of_decide_eq_false c46) (by omega)
 refine⟨fun c51=> ?_,fun c51=> ?_⟩
 refine⟨fun c52=> ?_,fun c52=> ?_⟩
 ·have hmay:=aj hpl hok q0 q1
  have hd:=aK hmay
  exact absurd (of_decide_eq_true c52) (by omega)
 refine⟨fun c53=> ?_,fun c53=> ?_⟩
 intro e; have k2_i102:ρ2.i 102=IntKind.u64.wrap (gt p.l pc 7):=e.trans (by simp only[k2_l1,k2_i94]); (try simp only[e,Ins.eta,Prog.eta,aa,Mem.eta,Mach.eta,-eq_self]); clear e
 refine⟨fun c54=> ?_,fun c54=> ?_⟩
 ·have hmay:=aj hpl hok q0 q1
  have hd:=aK hmay
  exact absurd (of_decide_eq_true c54) (by omega)
 refine⟨fun c55=> ?_,fun c55=> ?_⟩
 have hmay:=aj hpl hok q0 q1
 have hd:=aK hmay
 have hk:(ae p.l pc).k=2:=eqI c51
 obtain⟨a,ea⟩:∃a,opI .add .u64 (([r0,r1,r2,r3,r4,r5,r6,r7,r8,r9,r10]:List Int).getD (gt p.l pc 5).toNat 0) (IntKind.u64.wrap (gt p.l pc 7))=a:=⟨_,rfl⟩
 obtain⟨n,en⟩:∃n,IntKind.i64.wrap (gt p.l pc 3)=n:=⟨_,rfl⟩
 obtain⟨v,ev⟩:∃v,([r0,r1,r2,r3,r4,r5,r6,r7,r8,r9,r10]:List Int).getD (gt p.l pc 6).toNat 0=v:=⟨_,rfl⟩
 have hs:aJ n=true:=en▸gG hmay (.inr hk)
 have ha:inK .u64 a=true:=ea▸eD _ _
 have hn3:=aI hs
 have h1:1≤n:=by omega
 have h8:n≤8:=by omega
 simp only[k2_l1,k2_i17,k2_i18,k2_i19,k2_i20,k2_i21,k2_i22,k2_i23,k2_i24,k2_i25,k2_i26,k2_i27,k2_i28,k2_i29,k2_i94,k2_l97,k2_l98,k2_l99,k2_l100,k2_i96,k2_l14,k2_i102,ea,en,ev,-eq_self]
 refine⟨fun ds=>ds=[],?_,?_⟩
 refine⟨fun c56=> ?_,fun c56=> ?_⟩
 ·rfl
 refine⟨fun c57=> ?_,fun c57=> ?_⟩
 ·rfl
 refine⟨fun c58=> ?_,fun c58=> ?_⟩
 ·rfl
 refine⟨fun c59=> ?_,fun c59=> ?_⟩
 ·rfl
 refine⟨fun _=>False,fun _=>0,absurd hs (by simp[aJ,neI c56,neI c57,neI c58,neI c59]),?_⟩
 intro ρ3 ha3 _ hif
 refine⟨fun c60=> ?_,fun c60=> ?_⟩
 refine⟨fun c61=> ?_,fun c61=> ?_⟩
 ·exact hif.elim
 ·exact hif.elim
 refine⟨fun c62=> ?_,fun c62=> ?_⟩
 refine⟨fun c63=> ?_,fun c63=> ?_⟩
 refine⟨fun c64=> ?_,fun c64=> ?_⟩
 intro e; (try simp only[e,Ins.eta,Prog.eta,aa,Mem.eta,Mach.eta,-eq_self]); clear e
 ·rfl
 ·exact hif.elim
 ·exact hif.elim
 ·exact hif.elim
 intro ρ3 ha3 _ _
 have k3_l1:=kL ha3 k2_l1
 have k3_i17:=kI ha3 k2_i17
 have k3_i18:=kI ha3 k2_i18
 have k3_i19:=kI ha3 k2_i19
 have k3_i20:=kI ha3 k2_i20
 have k3_i21:=kI ha3 k2_i21
 have k3_i22:=kI ha3 k2_i22
 have k3_i23:=kI ha3 k2_i23
 have k3_i24:=kI ha3 k2_i24
 have k3_i25:=kI ha3 k2_i25
 have k3_i26:=kI ha3 k2_i26
 have k3_i27:=kI ha3 k2_i27
 have k3_i28:=kI ha3 k2_i28
 have k3_i29:=kI ha3 k2_i29
 have k3_i94:=kI ha3 k2_i94
 have k3_l97:=kL ha3 k2_l97
 have k3_l98:=kL ha3 k2_l98
 have k3_l99:=kL ha3 k2_l99
 have k3_l100:=kL ha3 k2_l100
 have k3_i96:=kI ha3 k2_i96
 have k3_l14:=kL ha3 k2_l14
 have k3_i102:=kI ha3 k2_i102
 simp only[k3_l1,k3_i17,k3_i18,k3_i19,k3_i20,k3_i21,k3_i22,k3_i23,k3_i24,k3_i25,k3_i26,k3_i27,k3_i28,k3_i29,k3_i94,k3_l97,k3_l98,k3_l99,k3_l100,k3_i96,k3_l14,k3_i102,ea,en,ev,-eq_self]
 refine⟨fun ds=>ds=[],?_,?_⟩
 refine⟨fun ds=>ds=[.z (b2i (!inr 1048576 [] a n))],?_,?_⟩
 refine⟨fun c65=> ?_,fun c65=> ?_⟩
 ·exact congrArg (fun z=>[Dt.z (b2i z)]) (dC c65)
 refine⟨fun c66=> ?_,fun c66=> ?_⟩
 ·exact congrArg (fun z=>[Dt.z (b2i z)]) (cb (l:=[]) ha (by decide) h1 c65 (by decide) c66)
 ·rw[wrU (a:=n) (by omega) (by omega)]
  exact congrArg (fun z=>[Dt.z (b2i z)]) (bw (l:=[]) ha (by decide) h1 h8 c65 (by decide) c66)
 intro ρ4 ha4 _ hi4
 simp only[List.cons.injEq,Dt.z.injEq,Dt.l.injEq,b2i_eq_iff,and_true] at hi4
 have k4_b103:=hi4
 have k4_l1:=kL ha4 k3_l1
 have k4_i17:=kI ha4 k3_i17
 have k4_i18:=kI ha4 k3_i18
 have k4_i19:=kI ha4 k3_i19
 have k4_i20:=kI ha4 k3_i20
 have k4_i21:=kI ha4 k3_i21
 have k4_i22:=kI ha4 k3_i22
 have k4_i23:=kI ha4 k3_i23
 have k4_i24:=kI ha4 k3_i24
 have k4_i25:=kI ha4 k3_i25
 have k4_i26:=kI ha4 k3_i26
 have k4_i27:=kI ha4 k3_i27
 have k4_i28:=kI ha4 k3_i28
 have k4_i29:=kI ha4 k3_i29
 have k4_i94:=kI ha4 k3_i94
 have k4_l97:=kL ha4 k3_l97
 have k4_l98:=kL ha4 k3_l98
 have k4_l99:=kL ha4 k3_l99
 have k4_l100:=kL ha4 k3_l100
 have k4_i96:=kI ha4 k3_i96
 have k4_l14:=kL ha4 k3_l14
 have k4_i102:=kI ha4 k3_i102
 simp only[k4_l1,k4_i17,k4_i18,k4_i19,k4_i20,k4_i21,k4_i22,k4_i23,k4_i24,k4_i25,k4_i26,k4_i27,k4_i28,k4_i29,k4_i94,k4_l97,k4_l98,k4_l99,k4_l100,k4_i96,k4_l14,k4_i102,k4_b103,ea,en,ev,-eq_self]
 refine⟨fun c67=> ?_,fun c67=> ?_⟩
 ·rfl
 refine⟨fun c68=> ?_,fun c68=> ?_⟩
 ·exact absurd c67 (by simp[ca h1])
 refine⟨fun c69=> ?_,fun c69=> ?_⟩
 ·exact absurd c67 (by simp[ca h1])
 refine⟨fun c70=> ?_,fun c70=> ?_⟩
 ·exact absurd c67 (by simp[ca h1])
 ·exact absurd c67 (by simp[ca h1])
 intro ρ4 ha4 _ _
 have k4_l1:=kL ha4 k3_l1
 have k4_i17:=kI ha4 k3_i17
 have k4_i18:=kI ha4 k3_i18
 have k4_i19:=kI ha4 k3_i19
 have k4_i20:=kI ha4 k3_i20
 have k4_i21:=kI ha4 k3_i21
 have k4_i22:=kI ha4 k3_i22
 have k4_i23:=kI ha4 k3_i23
 have k4_i24:=kI ha4 k3_i24
 have k4_i25:=kI ha4 k3_i25
 have k4_i26:=kI ha4 k3_i26
 have k4_i27:=kI ha4 k3_i27
 have k4_i28:=kI ha4 k3_i28
 have k4_i29:=kI ha4 k3_i29
 have k4_i94:=kI ha4 k3_i94
 have k4_l97:=kL ha4 k3_l97
 have k4_l98:=kL ha4 k3_l98
 have k4_l99:=kL ha4 k3_l99
 have k4_l100:=kL ha4 k3_l100
 have k4_i96:=kI ha4 k3_i96
 have k4_l14:=kL ha4 k3_l14
 have k4_i102:=kI ha4 k3_i102
 simp only[k4_l1,k4_i17,k4_i18,k4_i19,k4_i20,k4_i21,k4_i22,k4_i23,k4_i24,k4_i25,k4_i26,k4_i27,k4_i28,k4_i29,k4_i94,k4_l97,k4_l98,k4_l99,k4_l100,k4_i96,k4_l14,k4_i102,ea,en,ev,-eq_self]
 refine⟨fun ds=>ds=[]∧inr 2097152 c1 a n=false,?_,?_⟩
 refine⟨fun ds=>ds=[.z (b2i (!inr 2097152 c1 a n))],?_,?_⟩
 refine⟨fun c71=> ?_,fun c71=> ?_⟩
 ·exact congrArg (fun z=>[Dt.z (b2i z)]) (dC c71)
 refine⟨fun c72=> ?_,fun c72=> ?_⟩
 ·exact congrArg (fun z=>[Dt.z (b2i z)]) (cb (l:=c1) ha (by decide) h1 c71 (Nat.le_trans h256 (by decide)) c72)
 ·rw[wrU (a:=n) (by omega) (by omega)]
  exact congrArg (fun z=>[Dt.z (b2i z)]) (bw (l:=c1) ha (by decide) h1 h8 c71 (Nat.le_trans h256 (by decide)) c72)
 intro ρ5 ha5 _ hi5
 simp only[List.cons.injEq,Dt.z.injEq,Dt.l.injEq,b2i_eq_iff,and_true] at hi5
 have k5_b103:=hi5
 have k5_l1:=kL ha5 k4_l1
 have k5_i17:=kI ha5 k4_i17
 have k5_i18:=kI ha5 k4_i18
 have k5_i19:=kI ha5 k4_i19
 have k5_i20:=kI ha5 k4_i20
 have k5_i21:=kI ha5 k4_i21
 have k5_i22:=kI ha5 k4_i22
 have k5_i23:=kI ha5 k4_i23
 have k5_i24:=kI ha5 k4_i24
 have k5_i25:=kI ha5 k4_i25
 have k5_i26:=kI ha5 k4_i26
 have k5_i27:=kI ha5 k4_i27
 have k5_i28:=kI ha5 k4_i28
 have k5_i29:=kI ha5 k4_i29
 have k5_i94:=kI ha5 k4_i94
 have k5_l97:=kL ha5 k4_l97
 have k5_l98:=kL ha5 k4_l98
 have k5_l99:=kL ha5 k4_l99
 have k5_l100:=kL ha5 k4_l100
 have k5_i96:=kI ha5 k4_i96
 have k5_l14:=kL ha5 k4_l14
 have k5_i102:=kI ha5 k4_i102
 simp only[k5_l1,k5_i17,k5_i18,k5_i19,k5_i20,k5_i21,k5_i22,k5_i23,k5_i24,k5_i25,k5_i26,k5_i27,k5_i28,k5_i29,k5_i94,k5_l97,k5_l98,k5_l99,k5_l100,k5_i96,k5_l14,k5_i102,k5_b103,ea,en,ev,-eq_self]
 refine⟨fun c73=> ?_,fun c73=> ?_⟩
 ·exact⟨rfl,by simpa using c73⟩
 refine⟨fun c74=> ?_,fun c74=> ?_⟩
 ·have fr:inr 2097152 c1 a n=true:=by simpa using c73
  have W:=Win.of fr ha (by decide) (Nat.le_trans h256 (by decide)) h1 h8
  have w1:=W.lo; have w2:=W.hi; have w3:=W.len
  simp only[W.sub,W.cv,W.add] at c74
  exact absurd (of_decide_eq_true c74) (by omega)
 refine⟨fun c75=> ?_,fun c75=> ?_⟩
 ·have fr:inr 2097152 c1 a n=true:=by simpa using c73
  have W:=Win.of fr ha (by decide) (Nat.le_trans h256 (by decide)) h1 h8
  have w1:=W.lo; have w2:=W.hi; have w3:=W.len
  simp only[W.sub,W.cv,W.add] at c75
  exact absurd (of_decide_eq_true c75) (by omega)
 refine⟨fun c76=> ?_,fun c76=> ?_⟩
 ·have fr:inr 2097152 c1 a n=true:=by simpa using c73
  have W:=Win.of fr ha (by decide) (Nat.le_trans h256 (by decide)) h1 h8
  have w1:=W.lo; have w2:=W.hi; have w3:=W.len
  simp only[W.sub,W.cv,W.add] at c76
  exact absurd (of_decide_eq_true c76) (by omega)
 have fr:inr 2097152 c1 a n=true:=by simpa using c73
 have W:=Win.of fr ha (by decide) (Nat.le_trans h256 (by decide)) h1 h8
 refine⟨fun ds=>∃k:Nat,ds=[.z (k:Int),.l (putL c1 (a-2097152).toNat v k),.l f1]∧k≤n.toNat,fun ds=>n.toNat-(dI ds 0).toNat,⟨0,rfl,Nat.zero_le _⟩,?_⟩
 intro ρ6 ha6 _ hi6
 obtain⟨k,hds,hk2⟩:=hi6
 simp only[List.cons.injEq,Dt.z.injEq,Dt.l.injEq,b2i_eq_iff,and_true] at hds
 obtain⟨k6_i104,k6_l105,k6_l106⟩:=hds
 have k6_l1:=kL ha6 k5_l1
 have k6_i17:=kI ha6 k5_i17
 have k6_i18:=kI ha6 k5_i18
 have k6_i19:=kI ha6 k5_i19
 have k6_i20:=kI ha6 k5_i20
 have k6_i21:=kI ha6 k5_i21
 have k6_i22:=kI ha6 k5_i22
 have k6_i23:=kI ha6 k5_i23
 have k6_i24:=kI ha6 k5_i24
 have k6_i25:=kI ha6 k5_i25
 have k6_i26:=kI ha6 k5_i26
 have k6_i27:=kI ha6 k5_i27
 have k6_i28:=kI ha6 k5_i28
 have k6_i29:=kI ha6 k5_i29
 have k6_i94:=kI ha6 k5_i94
 have k6_l97:=kL ha6 k5_l97
 have k6_l98:=kL ha6 k5_l98
 have k6_l99:=kL ha6 k5_l99
 have k6_l100:=kL ha6 k5_l100
 have k6_i96:=kI ha6 k5_i96
 have k6_l14:=kL ha6 k5_l14
 have k6_i102:=kI ha6 k5_i102
 simp only[k6_l1,k6_i17,k6_i18,k6_i19,k6_i20,k6_i21,k6_i22,k6_i23,k6_i24,k6_i25,k6_i26,k6_i27,k6_i28,k6_i29,k6_i94,k6_l97,k6_l98,k6_l99,k6_l100,k6_i96,k6_l14,k6_i102,k6_i104,k6_l105,k6_l106,ea,en,ev,W.sub,W.cv,W.add,W.win,W.len,-eq_self]
 refine⟨fun c77=> ?_,fun c77=> ?_⟩
 refine⟨fun c78=> ?_,fun c78=> ?_⟩
 ·have hk3:k<n.toNat:=Int.ofNat_lt.1 (of_decide_eq_true c77)
  have w1:=W.lo; have w2:=W.hi; have w3:=W.len
  rw[mulE (by omega)] at c78
  exact absurd (of_decide_eq_true c78) (by omega)
 refine⟨fun c79=> ?_,fun c79=> ?_⟩
 ·have hk3:k<n.toNat:=Int.ofNat_lt.1 (of_decide_eq_true c77)
  have w1:=W.lo; have w2:=W.hi; have w3:=W.len
  rw[au] at c79
  exact absurd (of_decide_eq_true c79) (by omega)
 refine⟨fun c80=> ?_,fun c80=> ?_⟩
 ·have hk3:k<n.toNat:=Int.ofNat_lt.1 (of_decide_eq_true c77)
  have w1:=W.lo; have w2:=W.hi; have w3:=W.len
  exact absurd (of_decide_eq_true c80) (by omega)
 refine⟨fun c81=> ?_,fun c81=> ?_⟩
 refine⟨fun c82=> ?_,fun c82=> ?_⟩
 ·have hk3:k<n.toNat:=Int.ofNat_lt.1 (of_decide_eq_true c77)
  have w1:=W.lo; have w2:=W.hi; have w3:=W.len
  rw[(W.byte (Nat.le_trans h256 (by decide)) hk3).1] at c82
  exact absurd (of_decide_eq_true c82) (by omega)
 refine⟨fun c83=> ?_,fun c83=> ?_⟩
 ·have hk3:k<n.toNat:=Int.ofNat_lt.1 (of_decide_eq_true c77)
  rw[putS W (Nat.le_trans h256 (by decide)) v hk3,addO hk3 (Nat.le_trans (by omega:n.toNat≤8) (by decide))]
  exact⟨⟨k+1,rfl,hk3⟩,by show n.toNat-(((k+1:Nat):Int)).toNat<n.toNat-((k:Int)).toNat; omega⟩
 ·have hk3:k<n.toNat:=Int.ofNat_lt.1 (of_decide_eq_true c77)
  have w1:=W.lo; have w2:=W.hi; have w3:=W.len
  rw[(W.byte (Nat.le_trans h256 (by decide)) hk3).1,au] at c83
  exact absurd (of_decide_eq_false c83) (by omega)
 ·have hk3:k<n.toNat:=Int.ofNat_lt.1 (of_decide_eq_true c77)
  have w1:=W.lo; have w2:=W.hi; have w3:=W.len
  simp only[List.length_drop,List.length_take,au] at c81
  exact absurd (of_decide_eq_false c81) (by omega)
 refine⟨fun c84=> ?_,fun c84=> ?_⟩
 refine⟨fun c85=> ?_,fun c85=> ?_⟩
 ·have hk:(ae p.l pc).k=2:=eqI c51
  have hw:opI .andNot .i64 (ai (ae p.l pc)) st=0:=eqI c40
  obtain rfl:k=n.toNat:=by have:=of_decide_eq_false c77; omega
  have g2:inr 3145728 f1 a n=false:=by
   have:=W.hi; have:=W.lo; unfold inr; rw[decide_eq_false (by omega)]; rfl
  have eC:stC ⟨[r0,r1,r2,r3,r4,r5,r6,r7,r8,r9,r10],st,pc,a1,t1,c1,f1⟩ a n v=putL c1 (a-2097152).toNat v n.toNat:=if_pos fr
  have eF:stF ⟨[r0,r1,r2,r3,r4,r5,r6,r7,r8,r9,r10],st,pc,a1,t1,c1,f1⟩ a n v=f1:=if_neg (by rw[g2]; decide)
  have eO:stOk ⟨[r0,r1,r2,r3,r4,r5,r6,r7,r8,r9,r10],st,pc,a1,t1,c1,f1⟩ a n=true:=by unfold stOk; rw[show inr 2097152 c1 a n=true from fr]; rfl
  exact EAt.go hE hpl hok hf.2 (of_decide_eq_true c30) (hZ hw hk ea en eO) (by rw[sX (m:=⟨[r0,r1,r2,r3,r4,r5,r6,r7,r8,r9,r10],st,pc,a1,t1,c1,f1⟩) hk ea en ev,eC,eF]; rfl) rfl rfl (rV q2)
 ·exact absurd (show _=(64:Int) by(try simp only[au]); omega) (neI c85)
 ·exact absurd (of_decide_eq_false c84) (by(try simp only[au]); omega)
 intro ρ5 ha5 _ hi5
 obtain⟨_,g1⟩:=hi5
 have k5_l1:=kL ha5 k4_l1
 have k5_i17:=kI ha5 k4_i17
 have k5_i18:=kI ha5 k4_i18
 have k5_i19:=kI ha5 k4_i19
 have k5_i20:=kI ha5 k4_i20
 have k5_i21:=kI ha5 k4_i21
 have k5_i22:=kI ha5 k4_i22
 have k5_i23:=kI ha5 k4_i23
 have k5_i24:=kI ha5 k4_i24
 have k5_i25:=kI ha5 k4_i25
 have k5_i26:=kI ha5 k4_i26
 have k5_i27:=kI ha5 k4_i27
 have k5_i28:=kI ha5 k4_i28
 have k5_i29:=kI ha5 k4_i29
 have k5_i94:=kI ha5 k4_i94
 have k5_l97:=kL ha5 k4_l97
 have k5_l98:=kL ha5 k4_l98
 have k5_l99:=kL ha5 k4_l99
 have k5_l100:=kL ha5 k4_l100
 have k5_i96:=kI ha5 k4_i96
 have k5_l14:=kL ha5 k4_l14
 have k5_i102:=kI ha5 k4_i102
 simp only[k5_l1,k5_i17,k5_i18,k5_i19,k5_i20,k5_i21,k5_i22,k5_i23,k5_i24,k5_i25,k5_i26,k5_i27,k5_i28,k5_i29,k5_i94,k5_l97,k5_l98,k5_l99,k5_l100,k5_i96,k5_l14,k5_i102,ea,en,ev,-eq_self]
 refine⟨fun ds=>ds=[]∧inr 3145728 f1 a n=false,?_,?_⟩
 refine⟨fun ds=>ds=[.z (b2i (!inr 3145728 f1 a n))],?_,?_⟩
 refine⟨fun c86=> ?_,fun c86=> ?_⟩
 ·exact congrArg (fun z=>[Dt.z (b2i z)]) (dC c86)
 refine⟨fun c87=> ?_,fun c87=> ?_⟩
 ·exact congrArg (fun z=>[Dt.z (b2i z)]) (cb (l:=f1) ha (by decide) h1 c86 (by rw[q2]; decide) c87)
 ·rw[wrU (a:=n) (by omega) (by omega)]
  exact congrArg (fun z=>[Dt.z (b2i z)]) (bw (l:=f1) ha (by decide) h1 h8 c86 (by rw[q2]; decide) c87)
 intro ρ6 ha6 _ hi6
 simp only[List.cons.injEq,Dt.z.injEq,Dt.l.injEq,b2i_eq_iff,and_true] at hi6
 have k6_b103:=hi6
 have k6_l1:=kL ha6 k5_l1
 have k6_i17:=kI ha6 k5_i17
 have k6_i18:=kI ha6 k5_i18
 have k6_i19:=kI ha6 k5_i19
 have k6_i20:=kI ha6 k5_i20
 have k6_i21:=kI ha6 k5_i21
 have k6_i22:=kI ha6 k5_i22
 have k6_i23:=kI ha6 k5_i23
 have k6_i24:=kI ha6 k5_i24
 have k6_i25:=kI ha6 k5_i25
 have k6_i26:=kI ha6 k5_i26
 have k6_i27:=kI ha6 k5_i27
 have k6_i28:=kI ha6 k5_i28
 have k6_i29:=kI ha6 k5_i29
 have k6_i94:=kI ha6 k5_i94
 have k6_l97:=kL ha6 k5_l97
 have k6_l98:=kL ha6 k5_l98
 have k6_l99:=kL ha6 k5_l99
 have k6_l100:=kL ha6 k5_l100
 have k6_i96:=kI ha6 k5_i96
 have k6_l14:=kL ha6 k5_l14
 have k6_i102:=kI ha6 k5_i102
 simp only[k6_l1,k6_i17,k6_i18,k6_i19,k6_i20,k6_i21,k6_i22,k6_i23,k6_i24,k6_i25,k6_i26,k6_i27,k6_i28,k6_i29,k6_i94,k6_l97,k6_l98,k6_l99,k6_l100,k6_i96,k6_l14,k6_i102,k6_b103,ea,en,ev,-eq_self]
 refine⟨fun c88=> ?_,fun c88=> ?_⟩
 ·exact⟨rfl,by simpa using c88⟩
 refine⟨fun c89=> ?_,fun c89=> ?_⟩
 ·have fr:inr 3145728 f1 a n=true:=by simpa using c88
  have W:=Win.of fr ha (by decide) (by rw[q2]; decide) h1 h8
  have w1:=W.lo; have w2:=W.hi; have w3:=W.len
  simp only[W.sub,W.cv,W.add] at c89
  exact absurd (of_decide_eq_true c89) (by omega)
 refine⟨fun c90=> ?_,fun c90=> ?_⟩
 ·have fr:inr 3145728 f1 a n=true:=by simpa using c88
  have W:=Win.of fr ha (by decide) (by rw[q2]; decide) h1 h8
  have w1:=W.lo; have w2:=W.hi; have w3:=W.len
  simp only[W.sub,W.cv,W.add] at c90
  exact absurd (of_decide_eq_true c90) (by omega)
 refine⟨fun c91=> ?_,fun c91=> ?_⟩
 ·have fr:inr 3145728 f1 a n=true:=by simpa using c88
  have W:=Win.of fr ha (by decide) (by rw[q2]; decide) h1 h8
  have w1:=W.lo; have w2:=W.hi; have w3:=W.len
  simp only[W.sub,W.cv,W.add] at c91
  exact absurd (of_decide_eq_true c91) (by omega)
 have fr:inr 3145728 f1 a n=true:=by simpa using c88
 have W:=Win.of fr ha (by decide) (by rw[q2]; decide) h1 h8
 refine⟨fun ds=>∃k:Nat,ds=[.z (k:Int),.l c1,.l (putL f1 (a-3145728).toNat v k)]∧k≤n.toNat,fun ds=>n.toNat-(dI ds 0).toNat,⟨0,rfl,Nat.zero_le _⟩,?_⟩
 intro ρ7 ha7 _ hi7
 obtain⟨k,hds,hk2⟩:=hi7
 simp only[List.cons.injEq,Dt.z.injEq,Dt.l.injEq,b2i_eq_iff,and_true] at hds
 obtain⟨k7_i104,k7_l105,k7_l106⟩:=hds
 have k7_l1:=kL ha7 k6_l1
 have k7_i17:=kI ha7 k6_i17
 have k7_i18:=kI ha7 k6_i18
 have k7_i19:=kI ha7 k6_i19
 have k7_i20:=kI ha7 k6_i20
 have k7_i21:=kI ha7 k6_i21
 have k7_i22:=kI ha7 k6_i22
 have k7_i23:=kI ha7 k6_i23
 have k7_i24:=kI ha7 k6_i24
 have k7_i25:=kI ha7 k6_i25
 have k7_i26:=kI ha7 k6_i26
 have k7_i27:=kI ha7 k6_i27
 have k7_i28:=kI ha7 k6_i28
 have k7_i29:=kI ha7 k6_i29
 have k7_i94:=kI ha7 k6_i94
 have k7_l97:=kL ha7 k6_l97
 have k7_l98:=kL ha7 k6_l98
 have k7_l99:=kL ha7 k6_l99
 have k7_l100:=kL ha7 k6_l100
 have k7_i96:=kI ha7 k6_i96
 have k7_l14:=kL ha7 k6_l14
 have k7_i102:=kI ha7 k6_i102
 simp only[k7_l1,k7_i17,k7_i18,k7_i19,k7_i20,k7_i21,k7_i22,k7_i23,k7_i24,k7_i25,k7_i26,k7_i27,k7_i28,k7_i29,k7_i94,k7_l97,k7_l98,k7_l99,k7_l100,k7_i96,k7_l14,k7_i102,k7_i104,k7_l105,k7_l106,ea,en,ev,W.sub,W.cv,W.add,W.win,W.len,-eq_self]
 refine⟨fun c92=> ?_,fun c92=> ?_⟩
 refine⟨fun c93=> ?_,fun c93=> ?_⟩
 ·have hk3:k<n.toNat:=Int.ofNat_lt.1 (of_decide_eq_true c92)
  have w1:=W.lo; have w2:=W.hi; have w3:=W.len
  rw[mulE (by omega)] at c93
  exact absurd (of_decide_eq_true c93) (by omega)
 refine⟨fun c94=> ?_,fun c94=> ?_⟩
 ·have hk3:k<n.toNat:=Int.ofNat_lt.1 (of_decide_eq_true c92)
  have w1:=W.lo; have w2:=W.hi; have w3:=W.len
  rw[au] at c94
  exact absurd (of_decide_eq_true c94) (by omega)
 refine⟨fun c95=> ?_,fun c95=> ?_⟩
 ·have hk3:k<n.toNat:=Int.ofNat_lt.1 (of_decide_eq_true c92)
  have w1:=W.lo; have w2:=W.hi; have w3:=W.len
  exact absurd (of_decide_eq_true c95) (by omega)
 refine⟨fun c96=> ?_,fun c96=> ?_⟩
 refine⟨fun c97=> ?_,fun c97=> ?_⟩
 ·have hk3:k<n.toNat:=Int.ofNat_lt.1 (of_decide_eq_true c92)
  have w1:=W.lo; have w2:=W.hi; have w3:=W.len
  rw[(W.byte (by rw[q2]; decide) hk3).1] at c97
  exact absurd (of_decide_eq_true c97) (by omega)
 refine⟨fun c98=> ?_,fun c98=> ?_⟩
 ·have hk3:k<n.toNat:=Int.ofNat_lt.1 (of_decide_eq_true c92)
  rw[putS W (by rw[q2]; decide) v hk3,addO hk3 (Nat.le_trans (by omega:n.toNat≤8) (by decide))]
  exact⟨⟨k+1,rfl,hk3⟩,by show n.toNat-(((k+1:Nat):Int)).toNat<n.toNat-((k:Int)).toNat; omega⟩
 ·have hk3:k<n.toNat:=Int.ofNat_lt.1 (of_decide_eq_true c92)
  have w1:=W.lo; have w2:=W.hi; have w3:=W.len
  rw[(W.byte (by rw[q2]; decide) hk3).1,au] at c98
  exact absurd (of_decide_eq_false c98) (by omega)
 ·have hk3:k<n.toNat:=Int.ofNat_lt.1 (of_decide_eq_true c92)
  have w1:=W.lo; have w2:=W.hi; have w3:=W.len
  simp only[List.length_drop,List.length_take,au] at c96
  exact absurd (of_decide_eq_false c96) (by omega)
 refine⟨fun c99=> ?_,fun c99=> ?_⟩
 refine⟨fun c100=> ?_,fun c100=> ?_⟩
 ·have hk:(ae p.l pc).k=2:=eqI c51
  have hw:opI .andNot .i64 (ai (ae p.l pc)) st=0:=eqI c40
  obtain rfl:k=n.toNat:=by have:=of_decide_eq_false c92; omega
  have eC:stC ⟨[r0,r1,r2,r3,r4,r5,r6,r7,r8,r9,r10],st,pc,a1,t1,c1,f1⟩ a n v=c1:=if_neg (by rw[g1]; decide)
  have eF:stF ⟨[r0,r1,r2,r3,r4,r5,r6,r7,r8,r9,r10],st,pc,a1,t1,c1,f1⟩ a n v=putL f1 (a-3145728).toNat v n.toNat:=if_pos fr
  have eO:stOk ⟨[r0,r1,r2,r3,r4,r5,r6,r7,r8,r9,r10],st,pc,a1,t1,c1,f1⟩ a n=true:=by unfold stOk; rw[show inr 3145728 f1 a n=true from fr,Bool.or_true]
  exact EAt.go hE hpl hok hf.2 (of_decide_eq_true c30) (hZ hw hk ea en eO) (by rw[sX (m:=⟨[r0,r1,r2,r3,r4,r5,r6,r7,r8,r9,r10],st,pc,a1,t1,c1,f1⟩) hk ea en ev,eC,eF]; rfl) rfl rfl (rV (by rw[au]; exact q2))
 ·exact absurd (show _=(64:Int) by(try simp only[au]); omega) (neI c100)
 ·exact absurd (of_decide_eq_false c99) (by(try simp only[au]); omega)
 intro ρ6 ha6 _ hi6
 obtain⟨_,g2⟩:=hi6
 have k6_l1:=kL ha6 k5_l1
 have k6_i17:=kI ha6 k5_i17
 have k6_i18:=kI ha6 k5_i18
 have k6_i19:=kI ha6 k5_i19
 have k6_i20:=kI ha6 k5_i20
 have k6_i21:=kI ha6 k5_i21
 have k6_i22:=kI ha6 k5_i22
 have k6_i23:=kI ha6 k5_i23
 have k6_i24:=kI ha6 k5_i24
 have k6_i25:=kI ha6 k5_i25
 have k6_i26:=kI ha6 k5_i26
 have k6_i27:=kI ha6 k5_i27
 have k6_i28:=kI ha6 k5_i28
 have k6_i29:=kI ha6 k5_i29
 have k6_i94:=kI ha6 k5_i94
 have k6_l97:=kL ha6 k5_l97
 have k6_l98:=kL ha6 k5_l98
 have k6_l99:=kL ha6 k5_l99
 have k6_l100:=kL ha6 k5_l100
 have k6_i96:=kI ha6 k5_i96
 have k6_l14:=kL ha6 k5_l14
 have k6_i102:=kI ha6 k5_i102
 simp only[k6_l1,k6_i17,k6_i18,k6_i19,k6_i20,k6_i21,k6_i22,k6_i23,k6_i24,k6_i25,k6_i26,k6_i27,k6_i28,k6_i29,k6_i94,k6_l97,k6_l98,k6_l99,k6_l100,k6_i96,k6_l14,k6_i102,ea,en,ev,-eq_self]
 refine⟨fun ds=>ds=[]∧inr 4194304 [] a n=false,?_,?_⟩
 refine⟨fun ds=>ds=[.z (b2i (!inr 4194304 [] a n))],?_,?_⟩
 refine⟨fun c101=> ?_,fun c101=> ?_⟩
 ·exact congrArg (fun z=>[Dt.z (b2i z)]) (dC c101)
 refine⟨fun c102=> ?_,fun c102=> ?_⟩
 ·exact congrArg (fun z=>[Dt.z (b2i z)]) (cb (l:=[]) ha (by decide) h1 c101 (by decide) c102)
 ·rw[wrU (a:=n) (by omega) (by omega)]
  exact congrArg (fun z=>[Dt.z (b2i z)]) (bw (l:=[]) ha (by decide) h1 h8 c101 (by decide) c102)
 intro ρ7 ha7 _ hi7
 simp only[List.cons.injEq,Dt.z.injEq,Dt.l.injEq,b2i_eq_iff,and_true] at hi7
 have k7_b103:=hi7
 have k7_l1:=kL ha7 k6_l1
 have k7_i17:=kI ha7 k6_i17
 have k7_i18:=kI ha7 k6_i18
 have k7_i19:=kI ha7 k6_i19
 have k7_i20:=kI ha7 k6_i20
 have k7_i21:=kI ha7 k6_i21
 have k7_i22:=kI ha7 k6_i22
 have k7_i23:=kI ha7 k6_i23
 have k7_i24:=kI ha7 k6_i24
 have k7_i25:=kI ha7 k6_i25
 have k7_i26:=kI ha7 k6_i26
 have k7_i27:=kI ha7 k6_i27
 have k7_i28:=kI ha7 k6_i28
 have k7_i29:=kI ha7 k6_i29
 have k7_i94:=kI ha7 k6_i94
 have k7_l97:=kL ha7 k6_l97
 have k7_l98:=kL ha7 k6_l98
 have k7_l99:=kL ha7 k6_l99
 have k7_l100:=kL ha7 k6_l100
 have k7_i96:=kI ha7 k6_i96
 have k7_l14:=kL ha7 k6_l14
 have k7_i102:=kI ha7 k6_i102
 simp only[k7_l1,k7_i17,k7_i18,k7_i19,k7_i20,k7_i21,k7_i22,k7_i23,k7_i24,k7_i25,k7_i26,k7_i27,k7_i28,k7_i29,k7_i94,k7_l97,k7_l98,k7_l99,k7_l100,k7_i96,k7_l14,k7_i102,k7_b103,ea,en,ev,-eq_self]
 refine⟨fun c103=> ?_,fun c103=> ?_⟩
 ·exact⟨rfl,by simpa using c103⟩
 ·exact absurd c103 (by simp[ca h1])
 intro ρ7 ha7 _ hi7
 obtain⟨_,g3⟩:=hi7
 have k7_l1:=kL ha7 k6_l1
 have k7_i17:=kI ha7 k6_i17
 have k7_i18:=kI ha7 k6_i18
 have k7_i19:=kI ha7 k6_i19
 have k7_i20:=kI ha7 k6_i20
 have k7_i21:=kI ha7 k6_i21
 have k7_i22:=kI ha7 k6_i22
 have k7_i23:=kI ha7 k6_i23
 have k7_i24:=kI ha7 k6_i24
 have k7_i25:=kI ha7 k6_i25
 have k7_i26:=kI ha7 k6_i26
 have k7_i27:=kI ha7 k6_i27
 have k7_i28:=kI ha7 k6_i28
 have k7_i29:=kI ha7 k6_i29
 have k7_i94:=kI ha7 k6_i94
 have k7_l97:=kL ha7 k6_l97
 have k7_l98:=kL ha7 k6_l98
 have k7_l99:=kL ha7 k6_l99
 have k7_l100:=kL ha7 k6_l100
 have k7_i96:=kI ha7 k6_i96
 have k7_l14:=kL ha7 k6_l14
 have k7_i102:=kI ha7 k6_i102
 simp only[k7_l1,k7_i17,k7_i18,k7_i19,k7_i20,k7_i21,k7_i22,k7_i23,k7_i24,k7_i25,k7_i26,k7_i27,k7_i28,k7_i29,k7_i94,k7_l97,k7_l98,k7_l99,k7_l100,k7_i96,k7_l14,k7_i102,ea,en,ev,-eq_self]
 refine⟨fun ds=>ds=[.z 0,.l c1,.l f1],fun _=>0,rfl,?_⟩
 intro ρ8 ha8 _ hi8
 simp only[List.cons.injEq,Dt.z.injEq,Dt.l.injEq,b2i_eq_iff,and_true] at hi8
 obtain⟨k8_i103,k8_l104,k8_l105⟩:=hi8
 have k8_l1:=kL ha8 k7_l1
 have k8_i17:=kI ha8 k7_i17
 have k8_i18:=kI ha8 k7_i18
 have k8_i19:=kI ha8 k7_i19
 have k8_i20:=kI ha8 k7_i20
 have k8_i21:=kI ha8 k7_i21
 have k8_i22:=kI ha8 k7_i22
 have k8_i23:=kI ha8 k7_i23
 have k8_i24:=kI ha8 k7_i24
 have k8_i25:=kI ha8 k7_i25
 have k8_i26:=kI ha8 k7_i26
 have k8_i27:=kI ha8 k7_i27
 have k8_i28:=kI ha8 k7_i28
 have k8_i29:=kI ha8 k7_i29
 have k8_i94:=kI ha8 k7_i94
 have k8_l97:=kL ha8 k7_l97
 have k8_l98:=kL ha8 k7_l98
 have k8_l99:=kL ha8 k7_l99
 have k8_l100:=kL ha8 k7_l100
 have k8_i96:=kI ha8 k7_i96
 have k8_l14:=kL ha8 k7_l14
 have k8_i102:=kI ha8 k7_i102
 simp only[k8_l1,k8_i17,k8_i18,k8_i19,k8_i20,k8_i21,k8_i22,k8_i23,k8_i24,k8_i25,k8_i26,k8_i27,k8_i28,k8_i29,k8_i94,k8_l97,k8_l98,k8_l99,k8_l100,k8_i96,k8_l14,k8_i102,k8_i103,k8_l104,k8_l105,ea,en,ev,-eq_self]
 refine⟨fun c104=> ?_,fun c104=> ?_⟩
 refine⟨fun c105=> ?_,fun c105=> ?_⟩
 ·exact absurd (of_decide_eq_true c104) (by decide)
 ·exact absurd (of_decide_eq_true c104) (by decide)
 refine⟨fun c106=> ?_,fun c106=> ?_⟩
 refine⟨fun c107=> ?_,fun c107=> ?_⟩
 refine⟨fun c108=> ?_,fun c108=> ?_⟩
 intro e; (try simp only[e,Ins.eta,Prog.eta,aa,Mem.eta,Mach.eta,-eq_self]); clear e
 ·rfl
 ·have hk:(ae p.l pc).k=2:=eqI c51
  have hw:opI .andNot .i64 (ai (ae p.l pc)) st=0:=eqI c40
  have eO:stOk ⟨[r0,r1,r2,r3,r4,r5,r6,r7,r8,r9,r10],st,pc,a1,t1,c1,f1⟩ a n=false:=by unfold stOk; rw[show inr 2097152 c1 a n=false from g1,show inr 3145728 f1 a n=false from g2]; rfl
  have hx:=hEnd (of_decide_eq_true c30) _ (pM hw hk ea en eO) (by decide)
  exact absurd hx (by first | exact neI c108 | (rw[bm]; exact neI c108))
 ·exact absurd (show _=(64:Int) by omega) (neI c107)
 ·exact absurd (of_decide_eq_false c106) (by omega)
 ·have hmay:=aj hpl hok q0 q1
  have hd:=aK hmay
  exact absurd (of_decide_eq_false c55) (by omega)
 ·have hmay:=aj hpl hok q0 q1
  have hd:=aK hmay
  exact absurd (of_decide_eq_false c53) (by omega)
 refine⟨fun c109=> ?_,fun c109=> ?_⟩
 refine⟨fun c110=> ?_,fun c110=> ?_⟩
 ·have hmay:=aj hpl hok q0 q1
  have hd:=aK hmay
  exact absurd (of_decide_eq_true c110) (by omega)
 refine⟨fun c111=> ?_,fun c111=> ?_⟩
 refine⟨?_,?_⟩
 ·exact fun _=>(by have hd:=aZ (aj hpl hok hR.pc0 hR.pc1); exact⟨hd.2.2.1,hd.2.2.2.1⟩)
 intro e; (try simp only[e,Ins.eta,Prog.eta,aa,Mem.eta,Mach.eta,-eq_self]); clear e
 intro e; (try simp only[e,Ins.eta,Prog.eta,aa,Mem.eta,Mach.eta,-eq_self]); clear e
 refine⟨fun c112=> ?_,fun c112=> ?_⟩
 intro e; (try simp only[e,Ins.eta,Prog.eta,aa,Mem.eta,Mach.eta,-eq_self]); clear e
 ·have hk:(ae p.l pc).k=3:=eqI c109
  have hw:opI .andNot .i64 (ai (ae p.l pc)) st=0:=eqI c40
  exact EAt.go hE hpl hok hf.2 (of_decide_eq_true c30) (dD hw (.inr (.inl hk))) ((wv (m:=⟨[r0,r1,r2,r3,r4,r5,r6,r7,r8,r9,r10],st,pc,a1,t1,c1,f1⟩) hk c112).symm) rfl rfl (hE.fr)
 ·have hk:(ae p.l pc).k=3:=eqI c109
  have hw:opI .andNot .i64 (ai (ae p.l pc)) st=0:=eqI c40
  exact EAt.go hE hpl hok hf.2 (of_decide_eq_true c30) (dD hw (.inr (.inl hk))) ((ww (m:=⟨[r0,r1,r2,r3,r4,r5,r6,r7,r8,r9,r10],st,pc,a1,t1,c1,f1⟩) hk c112).symm) rfl rfl (hE.fr)
 ·have hmay:=aj hpl hok q0 q1
  have hd:=aK hmay
  exact absurd (of_decide_eq_false c111) (by omega)
 refine⟨fun c113=> ?_,fun c113=> ?_⟩
 intro e; (try simp only[e,Ins.eta,Prog.eta,aa,Mem.eta,Mach.eta,-eq_self]); clear e
 ·have hk:(ae p.l pc).k=4:=eqI c113
  have hw:opI .andNot .i64 (ai (ae p.l pc)) st=0:=eqI c40
  exact EAt.go hE hpl hok hf.2 (of_decide_eq_true c30) (dD hw (.inr (.inr hk))) (by rw[abi hk]; rfl) rfl rfl (hE.fr)
 refine⟨fun c114=> ?_,fun c114=> ?_⟩
 refine⟨fun c115=> ?_,fun c115=> ?_⟩
 refine⟨fun c116=> ?_,fun c116=> ?_⟩
 intro e; (try simp only[e,Ins.eta,Prog.eta,aa,Mem.eta,Mach.eta,-eq_self]); clear e
 ·rfl
 ·have hk:(ae p.l pc).k=5:=eqI c114
  have hw:opI .andNot .i64 (ai (ae p.l pc)) st=0:=eqI c40
  have hx:=hEnd (of_decide_eq_true c30) _ (pP hw hk (show a1.length=0 by have:=eqI c115; omega)) (by decide)
  exact absurd hx (by first | exact neI c116 | (rw[bm]; exact neI c116))
 intro e; (try simp only[e,Ins.eta,Prog.eta,aa,Mem.eta,Mach.eta,-eq_self]); clear e
 refine⟨fun c117=> ?_,fun c117=> ?_⟩
 ·have z:=aE (gt p.l pc 8)
  rw[show opI .add .i64 1 (bo (gt p.l pc 8))=1+bo (gt p.l pc 8) from wrI (by omega) (by omega)] at c117
  exact absurd (of_decide_eq_true c117) (by omega)
 refine⟨fun c118=> ?_,fun c118=> ?_⟩
 ·have z:=aE (gt p.l pc 8)
  rw[show opI .add .i64 1 (bo (gt p.l pc 8))=1+bo (gt p.l pc 8) from wrI (by omega) (by omega)] at c118
  exact absurd (of_decide_eq_true c118) (by omega)
 refine⟨fun c119=> ?_,fun c119=> ?_⟩
 refine⟨fun c120=> ?_,fun c120=> ?_⟩
 ·have z:=aE (gt p.l pc 8)
  rw[show opI .add .i64 1 (bo (gt p.l pc 8))=1+bo (gt p.l pc 8) from wrI (by omega) (by omega),List.length_drop,List.length_take] at c120
  exact absurd (of_decide_eq_true c120) (by simp only[Int.toNat_one]; omega)
 refine⟨fun c121=> ?_,fun c121=> ?_⟩
 refine⟨fun c122=> ?_,fun c122=> ?_⟩
 ·exact absurd (of_decide_eq_true c122) (by have:=of_decide_eq_true c119; omega)
 ·have hk:(ae p.l pc).k=5:=eqI c114
  have hw:opI .andNot .i64 (ai (ae p.l pc)) st=0:=eqI c40
  exact EAt.go hE hpl hok hf.2 (of_decide_eq_true c30) (pQ hw hk (show a1.length≠0 by have:=neI c115; omega)) (by rw[abh hk]; rfl) rfl rfl (hE.fr)
 ·exact absurd (of_decide_eq_false c121) (by omega)
 ·exact absurd (of_decide_eq_false c119) (by have:=neI c115; omega)
 refine⟨fun c123=> ?_,fun c123=> ?_⟩
 refine⟨fun c124=> ?_,fun c124=> ?_⟩
 intro e; (try simp only[e,Ins.eta,Prog.eta,aa,Mem.eta,Mach.eta,-eq_self]); clear e
 ·rfl
 ·have hk:(ae p.l pc).k=6:=eqI c123
  have hw:opI .andNot .i64 (ai (ae p.l pc)) st=0:=eqI c40
  have hx:=hEnd (of_decide_eq_true c30) _ (wS hw hk) (by decide)
  exact absurd hx (by first | exact neI c124 | (rw[bm]; exact neI c124))
 ·have hmay:=aj hpl hok q0 q1
  have hd:=aK hmay
  have n0:=neI c41; have n1:=neI c44; have n2:=neI c51; have n3:=neI c109; have n4:=neI c113; have n5:=neI c114; have n6:=neI c123; omega
 refine⟨fun c125=> ?_,fun c125=> ?_⟩
 intro e; (try simp only[e,Ins.eta,Prog.eta,aa,Mem.eta,Mach.eta,-eq_self]); clear e
 ·rfl
 ·have hx:=hEnd (of_decide_eq_true c30) _ (wT (neI c40)) (by decide)
  exact absurd hx (by first | exact neI c125 | (rw[bm]; exact neI c125))
 ·exact absurd q1 (of_decide_eq_false c39)
 ·have hl0:0<left:=of_decide_eq_true c30
  obtain⟨y1,y2,y3⟩:=hH hl0
  have hg:∀k,gt SL n1 k=([r0,r1,r2,r3,r4,r5,r6,r7,r8,r9,r10]++st::frI ρ2 30).getD k 0:=fun k=>by unfold gt; rw[y3]
  simp[hg,frI] at c35
 ·have hl0:0<left:=of_decide_eq_true c30
  obtain⟨y1,y2,y3⟩:=hH hl0
  exact absurd (show n1<(SL.length:Int) by omega) (of_decide_eq_false c34)
 ·have hl0:0<left:=of_decide_eq_true c30
  obtain⟨y1,y2,y3⟩:=hH hl0
  exact absurd (y2.symm.trans (by have:=vS PL n1.toNat; rw[show((n1.toNat:Nat):Int)=n1 by omega] at this; exact this.symm)) (neI c33)
 ·have hl0:0<left:=of_decide_eq_true c30
  obtain⟨y1,y2,y3⟩:=hH hl0
  exact absurd (show n1<(PL.length:Int) by omega) (of_decide_eq_false c31)
 refine⟨fun c126=> ?_,fun c126=> ?_⟩
 intro e; (try simp only[e,Ins.eta,Prog.eta,aa,Mem.eta,Mach.eta,-eq_self]); clear e
 ·rfl
 refine⟨fun c127=> ?_,fun c127=> ?_⟩
 intro e; (try simp only[e,Ins.eta,Prog.eta,aa,Mem.eta,Mach.eta,-eq_self]); clear e
 ·rfl
 ·exact absurd (hOut (of_decide_eq_false c30)) (by have:=neI c126; rw[bm]; exact this)
 ·exact absurd (show(cx.length:Int)<1073741824 by have:=of_decide_eq_false c26; omega) (of_decide_eq_false c29)
 refine⟨fun c128=> ?_,fun c128=> ?_⟩
 intro e; (try simp only[e,Ins.eta,Prog.eta,aa,Mem.eta,Mach.eta,-eq_self]); clear e
 ·rfl
 refine⟨fun c129=> ?_,fun c129=> ?_⟩
 intro e; (try simp only[e,Ins.eta,Prog.eta,aa,Mem.eta,Mach.eta,-eq_self]); clear e
 ·rfl
 ·exact absurd (fY fun h=>neI c19 (bn h).2.1) (neI c128)
 refine⟨fun c130=> ?_,fun c130=> ?_⟩
 intro e; (try simp only[e,Ins.eta,Prog.eta,aa,Mem.eta,Mach.eta,-eq_self]); clear e
 ·rfl
 refine⟨fun c131=> ?_,fun c131=> ?_⟩
 intro e; (try simp only[e,Ins.eta,Prog.eta,aa,Mem.eta,Mach.eta,-eq_self]); clear e
 ·rfl
 ·exact absurd (fY fun h=>neI c18 (bn h).1) (neI c130)
theorem yu (xs:List Dt) (vals:List Value) (w:World) (hw:iG w [.agg kD,.one (.sl [some .u8] 5),.one (.sl [some .u64] 30),.one (.int .i64),.one (.int .i64)] xs vals):Calls Try.prog 5 vals.toArray w fun e w'=>∃v,e=.returned v∧RetOk [.one .bool] false w w' (lZ xs) v:=
 (oG (by kernel_rfl) tS (smc (pt rfl) (smc (vG rfl rfl) (smc (vH rfl rfl) (smc (nR rfl rfl) (smc (pu rfl) (smc (lY rfl) (smc (vP rfl) (smc (sK_holds rfl) (smc (qM rfl rfl) (smc (nP rfl rfl) (smc (vK rfl rfl) (smc (vI rfl) sm0)))))))))))) Try.func5 (fnc Try.func38 (fnc Try.func58 (fnc Try.func59 (fnc Try.func60 (fnc Try.func61 (fnc Try.func62 (fnc Try.func63 (fnc Try.func64 (fnc Try.func36 (fnc Try.func88 (fnc Try.func105 (fnc Try.func78 (fnc Try.func39 (fnc Try.func57 (fnc Try.func77 (fnc Try.func23 (fnc Try.func35 (fnc Try.func24 (fnc Try.func17 (fnc Try.func32 (fnc Try.func37 (fnc Try.func9 fn0)))))))))))))))))))))) yk (pre:=fun _=>True) (fun x0 gx0 x1 gx1 x2 gx2 x3 gx3 x4 gx4 x5 gx5 hp ρ g=>yc ⟨x0,x1⟩ ⟨gx0,gx1⟩ x2 gx2 x3 gx3 x4 gx4 x5 gx5 ρ g) xs vals w hw trivial).2
set_option maxRecDepth 100000 in
set_option maxHeartbeats 8000000 in
theorem mz {H:Type} {enc:TypeId×Value→H} {W:World} {r:Reach} {b0:Nat} (v0:Value) (k0:Value.okWide Try.prog W r b0 24 v0) (d0:DataW H) (p0:List MemPlace) (h0:DataW.Trod enc Try.prog W 0 (fun _=>true) true 24 v0 d0 p0) (_:∀x∈p0,x.block<W.heap.size) (v1:Value) (k1:Value.okWide Try.prog W r b0 25 v1) (d1:DataW H) (p1:List MemPlace) (h1:DataW.Trod enc Try.prog W 0 (fun _=>true) true 25 v1 d1 p1) (_:∀x∈p1,x.block<W.heap.size) (v2:Value) (k2:Value.okWide Try.prog W r b0 26 v2) (d2:DataW H) (p2:List MemPlace) (h2:DataW.Trod enc Try.prog W 0 (fun _=>true) true 26 v2 d2 p2) (_:∀x∈p2,x.block<W.heap.size) (a3:Int) (w3:(Lit.int .i64 a3).wf=true) (a4:Int) (w4:(Lit.int .i64 a4).wf=true):
  Calls Try.prog 5 #[v0,v1,v2,.int .i64 a3,.int .i64 a4] W fun e W'=>e=.returned (.bool true)∧Below W.heap.size W W':=by
 obtain⟨a0,q0,s0,rfl,w0,n0,m0,o0,l0⟩:=Prog.of_arg k0 h0
 obtain⟨q1,s1,rfl,n1,m1,o1,l1⟩:=nD rwU8 (by decide) Try.underlying25 k1 h1
 obtain⟨q2,s2,rfl,n2,m2,o2,l2⟩:=nD acX (by decide) Try.underlying26 k2 h2
 refine(yu (.z a0::(.l q0::(.l q1::(.l q2::(.z a3::(.z a4::([]))))))) _ W ⟨_,_,_,rfl,⟨_,_,_,rfl,⟨_,rfl,rfl,w0⟩,⟨_,_,_,rfl,⟨_,_,rfl,rfl,n0,m0,o0,l0⟩,⟨rfl,rfl⟩⟩⟩,⟨_,_,_,rfl,⟨_,_,rfl,rfl,n1,m1,o1,l1⟩,⟨_,_,_,rfl,⟨_,_,rfl,rfl,n2,m2,o2,l2⟩,⟨_,_,_,rfl,⟨_,rfl,rfl,(kg w3)⟩,⟨_,_,_,rfl,⟨_,rfl,rfl,(kg w4)⟩,⟨rfl,rfl⟩⟩⟩⟩⟩⟩).mono fun e W' ⟨v,he,hr⟩=> ?_
 have hv:v=.bool true:=RetOk.says hr
 rw[he,hv]
 exact⟨rfl,hr.ext⟩
end Go.Proofs.Ytghiofgomcihcaa
