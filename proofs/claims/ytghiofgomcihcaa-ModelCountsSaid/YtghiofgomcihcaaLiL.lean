import Derived.Test.YtghiofgomcihcaaMoB
import Derived.Test.YtghiofgomcihcaaLiZ
import Derived.Test.YtghiofgomcihcaaProg
import Derived.Laws.Externs
set_option linter.unusedVariables false
set_option linter.unusedSimpArgs false
namespace Go.Proofs.Ytghiofgomcihcaa
open Go.RowKit Go.ChangeShapes Go.WideShapes
def tys_LiL:List (Nat×TI):=[(3,⟨false,1,[.int .i64 (.lit 0)],[],none,some .i64,false,false,none,8,false,none,false,0⟩),
 (4,⟨false,1,[.bool (.tt false)],[],none,none,false,true,none,1,false,none,false,0⟩),
 (22,⟨false,1,[.nsl],[],none,none,false,false,some 44,24,false,none,false,0⟩),
 (24,⟨true,2,[.int .i64 (.lit 0),.nsl],[(0,3),(1,22)],none,none,false,false,none,32,false,none,false,0⟩),
 (29,⟨false,1,[.int .i8 (.lit 0)],[],none,some .i8,false,false,none,1,false,none,false,0⟩),
 (44,⟨true,9,[.int .i8 (.lit 0),.int .i8 (.lit 0),.int .i8 (.lit 0),.int .i8 (.lit 0),.bool (.tt false),.int .i8 (.lit 0),.int .i8 (.lit 0),.int .i64 (.lit 0),.int .i64 (.lit 0)],[(0,29),(1,29),(2,29),(3,29),(4,4),(5,29),(6,29),(7,3),(8,3)],none,none,true,false,none,24,false,none,false,0⟩)]
set_option maxRecDepth 100000 in
theorem td:(tys_LiL.all fun p=>ckTI Try.prog p.1 p.2)=true:=by kernel_rfl
theorem mq:(tys_LiL.all fun p=>!p.2.eqok||((Nat.beq p.1 44&&bk p.2.zero iz)))=true:=by kernel_rfl
theorem sR:(tys_LiL.all fun p=>!p.2.keyok)=true:=by kernel_rfl
theorem sJ:∀t i,(t,i)∈tys_LiL→TIok Try.prog t i:=by
 intro t i h
 refine dp (fU (f:=ckTI Try.prog) td h) (fun he=> ?_) (fun he=> ?_) (fun he=> ?_)
 ·have h1:=List.all_eq_true.1 mq (t,i) h
  simp only[he,Bool.not_true,Bool.false_or,Bool.or_eq_true,Bool.and_eq_true] at h1
  have hs:=h1.2
  obtain rfl:=Nat.eq_of_beq_eq_true h1.1
  exact fun vs us hv hu=>js vs us (aI hs hv) (aI hs hu)
 ·have h1:=List.all_eq_true.1 mq (t,i) h
  simp only[he,Bool.not_true,Bool.false_or,Bool.or_eq_true,Bool.and_eq_true] at h1
  have hs:=h1.2
  obtain rfl:=Nat.eq_of_beq_eq_true h1.1
  exact eX
 ·have h1:=List.all_eq_true.1 sR (t,i) h
  simp[he] at h1
def oy (key:Nat):Sm:=⟨22,key,[.one (.int .i64),.agg kIns],[.one (.int .i64),.one .bool],true⟩
def ow (i:Int) (x:Ins):List Dt:=[.z ((itgt i x).1),.z (b2i ((itgt i x).2))]
def iP:List Dt→List Dt
 | [.z x0,.z x1,.z x2,.z x3,.z x4,.z x5,.z x6,.z x7,.z x8,.z x9]=>ow x0 ⟨x1,x2,x3,x4,(x5==1),x6,x7,x8,x9⟩
 | _=>[]
def sT_jtgt:Tr:=
(.br (.eq (.var 1) (.lit 3))
(.br (.lt (.var 0) (.lit (-1099511627776)))
(.leaf (.cons (.lit 0) (.consb (.tt false) .nil)))
(.br (.lt (.lit 1099511627776) (.var 0))
(.leaf (.cons (.lit 0) (.consb (.tt false) .nil)))
(.br (.lt (.var 8) (.lit (-1099511627776)))
(.leaf (.cons (.lit 0) (.consb (.tt false) .nil)))
(.br (.lt (.lit 1099511627776) (.var 8))
(.leaf (.cons (.lit 0) (.consb (.tt false) .nil)))
(.leaf (.cons (.bin .add .i64 (.bin .add .i64 (.var 0) (.lit 1)) (.var 8)) (.consb (.tt true) .nil)))))))
(.br (.eq (.var 1) (.lit 4))
(.br (.lt (.var 0) (.lit (-1099511627776)))
(.leaf (.cons (.lit 0) (.consb (.tt false) .nil)))
(.br (.lt (.lit 1099511627776) (.var 0))
(.leaf (.cons (.lit 0) (.consb (.tt false) .nil)))
(.br (.lt (.var 8) (.lit (-1099511627776)))
(.leaf (.cons (.lit 0) (.consb (.tt false) .nil)))
(.br (.lt (.lit 1099511627776) (.var 8))
(.leaf (.cons (.lit 0) (.consb (.tt false) .nil)))
(.leaf (.cons (.bin .add .i64 (.bin .add .i64 (.var 0) (.lit 1)) (.var 8)) (.consb (.tt true) .nil)))))))
(.leaf (.cons (.lit 0) (.consb (.tt false) .nil)))))
def uf:Spec:=⟨fun k=>match k with | _=>fun _=>[],fun k=>match k with | _=>fun _=>True⟩
set_option maxRecDepth 100000 in
theorem yY:bw tys_LiL [] [] [] [] 200 Try.f22 [.one (.int .i64),.agg kIns] [.one (.int .i64),.one .bool] true [.int .i64,.int .i8,.int .i8,.int .i8,.int .i8,.bool,.int .i8,.int .i8,.int .i64,.int .i64] sT_jtgt:=⟨by kernel_rfl,by kernel_rfl,by kernel_rfl⟩
set_option maxRecDepth 100000 in
set_option maxHeartbeats 8000000 in
theorem yQ (i:Int) (hi:inK .i64 i=true) (x:Ins) (hx:Ins.ok x) (ρ:Env) (g:ai ρ 0 [.int .i64,.int .i8,.int .i8,.int .i8,.int .i8,.bool,.int .i8,.int .i8,.int .i64,.int .i64]=[.z i,.z x.k,.z x.op,.z x.w,.z x.sz,.z (b2i x.br),.z x.d,.z x.s,.z x.off,.z x.imm]):sT_jtgt.asks uf (fun ρ e=>e.D ρ=iP [.z i,.z x.k,.z x.op,.z x.w,.z x.sz,.z (b2i x.br),.z x.d,.z x.s,.z x.off,.z x.imm]) ρ fun _ _=>False:=by
 simp only[ai,varD,List.cons.injEq,Dt.z.injEq,Dt.l.injEq,b2i_eq_iff,Nat.reduceAdd,and_true] at g
 simp only[sT_jtgt,uf,iP,ow,Tr.asks,aD,okDs,okD,eqs,E.I,E.B,E.L,E.R,E.D,E.vs,dI,dB,dL,varD,ai,List.getElem?_cons_zero,List.getElem?_cons_succ,List.cons_append,List.nil_append,Nat.zero_add,Nat.add_zero,Nat.reduceAdd,and_true,true_and,b2i_one,-eq_self,Ins.eta,Prog.eta,aa,Mem.eta,Mach.eta,g]
 refine⟨fun c0=> ?_,fun c0=> ?_⟩
 refine⟨fun c1=> ?_,fun c1=> ?_⟩
 ·rw[kn (by have:=of_decide_eq_true c1; simp; omega)]; try rfl
 refine⟨fun c2=> ?_,fun c2=> ?_⟩
 ·rw[kn (by have:=of_decide_eq_true c2; simp; omega)]; try rfl
 refine⟨fun c3=> ?_,fun c3=> ?_⟩
 ·rw[km (by have:=of_decide_eq_true c3; simp; omega)]; try rfl
 refine⟨fun c4=> ?_,fun c4=> ?_⟩
 ·rw[km (by have:=of_decide_eq_true c4; simp; omega)]; try rfl
 ·rw[kl (.inl (eqI c0)) (by have q1:=of_decide_eq_false c1; have q2:=of_decide_eq_false c2; simp; omega) (by have q1:=of_decide_eq_false c3; have q2:=of_decide_eq_false c4; simp; omega)]; try rfl
 refine⟨fun c5=> ?_,fun c5=> ?_⟩
 refine⟨fun c6=> ?_,fun c6=> ?_⟩
 ·rw[kn (by have:=of_decide_eq_true c6; simp; omega)]; try rfl
 refine⟨fun c7=> ?_,fun c7=> ?_⟩
 ·rw[kn (by have:=of_decide_eq_true c7; simp; omega)]; try rfl
 refine⟨fun c8=> ?_,fun c8=> ?_⟩
 ·rw[km (by have:=of_decide_eq_true c8; simp; omega)]; try rfl
 refine⟨fun c9=> ?_,fun c9=> ?_⟩
 ·rw[km (by have:=of_decide_eq_true c9; simp; omega)]; try rfl
 ·rw[kl (.inr (eqI c5)) (by have q1:=of_decide_eq_false c6; have q2:=of_decide_eq_false c7; simp; omega) (by have q1:=of_decide_eq_false c8; have q2:=of_decide_eq_false c9; simp; omega)]; try rfl
 ·rw[ya c0 c5]; try rfl
theorem zc {sp:Spec} {key:Nat} (hF:sp.F key=iP) (hP:sp.pre key=fun _=>True:=by rfl):SmOk Try.prog sp (oy key):=
 bW (s:=oy key) hF hP (by kernel_rfl) sJ (sm0) Try.func22 fn0 yY (.inl rfl) (fun x0 gx0 x1 gx1 x2 gx2 x3 gx3 x4 gx4 x5 x6 gx6 x7 gx7 x8 gx8 x9 gx9 hp ρ g=>yQ x0 gx0 ⟨x1,x2,x3,x4,x5,x6,x7,x8,x9⟩ ⟨gx1,gx2,gx3,gx4,gx6,gx7,gx8,gx9⟩ ρ g)
end Go.Proofs.Ytghiofgomcihcaa
