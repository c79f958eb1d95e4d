import Derived.Test.YtghiofgomcihcaaMoB
import Derived.Test.YtghiofgomcihcaaLiZ
import Derived.Test.YtghiofgomcihcaaProg
import Derived.Laws.Externs
set_option linter.unusedVariables false
set_option linter.unusedSimpArgs false
namespace Go.Proofs.Ytghiofgomcihcaa
open Go.RowKit Go.ChangeShapes Go.WideShapes
def tys_LiL:List (Nat×TI):=[(3,⟨false,1,[.int .i64 (.lit 0)],[],none,some .i64,false,false,none,8,false,none,false,0⟩),
 (4,⟨false,1,[.bool (.tt false)],[],none,none,false,true,none,1,false,none,false,0⟩),
 (22,⟨false,1,[.nsl],[],none,none,false,false,some 44,24,false,none,false,0⟩),
 (24,⟨true,2,[.int .i64 (.lit 0),.nsl],[(0,3),(1,22)],none,none,false,false,none,32,false,none,false,0⟩),
 (29,⟨false,1,[.int .i8 (.lit 0)],[],none,some .i8,false,false,none,1,false,none,false,0⟩),
 (44,⟨true,9,[.int .i8 (.lit 0),.int .i8 (.lit 0),.int .i8 (.lit 0),.int .i8 (.lit 0),.bool (.tt false),.int .i8 (.lit 0),.int .i8 (.lit 0),.int .i64 (.lit 0),.int .i64 (.lit 0)],[(0,29),(1,29),(2,29),(3,29),(4,4),(5,29),(6,29),(7,3),(8,3)],none,none,true,false,none,24,false,none,false,0⟩)]
set_option maxRecDepth 100000 in
theorem uq:(tys_LiL.all fun p=>ckTI Try.prog p.1 p.2)=true:=by kernel_rfl
theorem nh:(tys_LiL.all fun p=>!p.2.eqok||((Nat.beq p.1 44&&bv p.2.zero iF)))=true:=by kernel_rfl
theorem ue:(tys_LiL.all fun p=>!p.2.keyok)=true:=by kernel_rfl
theorem dH:∀t i,(t,i)∈tys_LiL→TIok Try.prog t i:=by
 intro t i h
 refine cQ (eY (f:=ckTI Try.prog) uq h) (fun he=> ?_) (fun he=> ?_) (fun he=> ?_)
 ·have h1:=List.all_eq_true.1 nh (t,i) h
  simp only[he,Bool.not_true,Bool.false_or,Bool.or_eq_true,Bool.and_eq_true] at h1
  have hs:=h1.2
  obtain rfl:=Nat.eq_of_beq_eq_true h1.1
  exact fun vs us hv hu=>iA vs us (aB hs hv) (aB hs hu)
 ·have h1:=List.all_eq_true.1 nh (t,i) h
  simp only[he,Bool.not_true,Bool.false_or,Bool.or_eq_true,Bool.and_eq_true] at h1
  have hs:=h1.2
  obtain rfl:=Nat.eq_of_beq_eq_true h1.1
  exact ek
 ·have h1:=List.all_eq_true.1 ue (t,i) h
  simp[he] at h1
def vE (key:Nat):Sm:=⟨53,key,[.one (.int .i8)],[.one .bool],false⟩
def vg (n:Int):List Dt:=[.z (b2i (aJ n))]
def nS:List Dt→List Dt
 | [.z x0]=>vg x0
 | _=>[]
def sT_jsz:Tr:=
(.br (.eq (.var 0) (.lit 1))
(.leaf (.consb (.tt true) .nil))
(.br (.eq (.var 0) (.lit 2))
(.leaf (.consb (.tt true) .nil))
(.br (.eq (.var 0) (.lit 4))
(.leaf (.consb (.tt true) .nil))
(.leaf (.consb (.eq (.var 0) (.lit 8)) .nil)))))
def zr:Spec:=⟨fun k=>match k with | _=>fun _=>[],fun k=>match k with | _=>fun _=>True⟩
set_option maxRecDepth 100000 in
theorem ab8:aM tys_LiL [] [] [] [] 200 Try.f53 [.one (.int .i8)] [.one .bool] false [.int .i8] sT_jsz:=⟨by kernel_rfl,by kernel_rfl,by kernel_rfl⟩
set_option maxRecDepth 100000 in
set_option maxHeartbeats 8000000 in
theorem ab3 (n:Int) (hn:inK .i8 n=true) (ρ:Env) (g:ah ρ 0 [.int .i8]=[.z n]):sT_jsz.asks zr (fun ρ e=>e.D ρ=nS [.z n]) ρ fun _ _=>False:=by
 simp only[ah,varD,List.cons.injEq,Dt.z.injEq,Dt.l.injEq,b2i_eq_iff,Nat.reduceAdd,and_true] at g
 simp only[sT_jsz,zr,nS,vg,Tr.asks,am,okDs,okD,eqs,E.I,E.B,E.L,E.R,E.D,E.vs,dI,dB,dL,varD,ah,List.getElem?_cons_zero,List.getElem?_cons_succ,List.cons_append,List.nil_append,Nat.zero_add,Nat.add_zero,Nat.reduceAdd,and_true,true_and,b2i_one,-eq_self,Ins.eta,Prog.eta,aa,Mem.eta,Mach.eta,g]
 refine⟨fun c0=> ?_,fun c0=> ?_⟩
 ·(refine zb ?_; unfold aJ; rw[Bool.eq_iff_iff]; simp at *; omega)
 refine⟨fun c1=> ?_,fun c1=> ?_⟩
 ·(refine zb ?_; unfold aJ; rw[Bool.eq_iff_iff]; simp at *; omega)
 refine⟨fun c2=> ?_,fun c2=> ?_⟩
 ·(refine zb ?_; unfold aJ; rw[Bool.eq_iff_iff]; simp at *; omega)
 ·(refine zb ?_; unfold aJ; rw[Bool.eq_iff_iff]; simp at *; omega)
theorem ace {sp:Spec} {key:Nat} (hF:sp.F key=nS) (hP:sp.pre key=fun _=>True:=by rfl):SmOk Try.prog sp (vE key):=
 aS (s:=vE key) hF hP (by kernel_rfl) dH (sm0) Try.func53 fn0 ab8 (.inl rfl) (fun x0 gx0 hp ρ g=>ab3 x0 gx0 ρ g)
def gL (key:Nat):Sm:=⟨52,key,[.agg kIns],[.agg kIns],false⟩
def gH (x:Ins):List Dt:=[.z ((aC x).k),.z ((aC x).op),.z ((aC x).w),.z ((aC x).sz),.z (b2i ((aC x).br)),.z ((aC x).d),.z ((aC x).s),.z ((aC x).off),.z ((aC x).imm)]
def cX:List Dt→List Dt
 | [.z x0,.z x1,.z x2,.z x3,.z x4,.z x5,.z x6,.z x7,.z x8]=>gH ⟨x0,x1,x2,x3,(x4==1),x5,x6,x7,x8⟩
 | _=>[]
def sT_jfields:Tr:=
(.br (.eq (.var 0) (.lit 0))
(.br (.bvar 4)
(.br (.eq (.var 1) (.lit 8))
(.leaf (.vs 0 3 (.cons (.lit 0) (.consb (.not (.eq (.var 1) (.lit 8))) (.cons (.var 5) (.cons (.lit 0) (.cons (.lit 0) (.cons (.lit 0) .nil))))))))
(.leaf (.vs 0 3 (.cons (.lit 0) (.consb (.not (.eq (.var 1) (.lit 8))) (.vs 5 2 (.cons (.lit 0) (.cons (.lit 0) .nil))))))))
(.br (.eq (.var 1) (.lit 8))
(.leaf (.vs 0 3 (.cons (.lit 0) (.consb (.tt false) (.cons (.var 5) (.cons (.lit 0) (.cons (.lit 0) (.cons (.lit 0) .nil))))))))
(.leaf (.vs 0 3 (.cons (.lit 0) (.consb (.tt false) (.cons (.var 5) (.cons (.lit 0) (.cons (.lit 0) (.cons (.var 8) .nil))))))))))
(.br (.eq (.var 0) (.lit 1))
(.leaf (.cons (.var 0) (.cons (.lit 0) (.cons (.lit 0) (.cons (.var 3) (.consb (.tt false) (.vs 5 3 (.cons (.lit 0) .nil))))))))
(.br (.eq (.var 0) (.lit 2))
(.leaf (.cons (.var 0) (.cons (.lit 0) (.cons (.lit 0) (.cons (.var 3) (.consb (.tt false) (.vs 5 3 (.cons (.lit 0) .nil))))))))
(.br (.eq (.var 0) (.lit 3))
(.br (.bvar 4)
(.leaf (.vs 0 2 (.cons (.lit 0) (.cons (.lit 0) (.consb (.bvar 4) (.vs 5 3 (.cons (.lit 0) .nil)))))))
(.leaf (.vs 0 2 (.cons (.lit 0) (.cons (.lit 0) (.consb (.bvar 4) (.cons (.var 5) (.cons (.lit 0) (.vs 7 2 .nil)))))))))
(.br (.eq (.var 0) (.lit 4))
(.leaf (.cons (.var 0) (.cons (.lit 0) (.cons (.lit 0) (.cons (.lit 0) (.consb (.tt false) (.cons (.lit 0) (.cons (.lit 0) (.cons (.var 7) (.cons (.lit 0) .nil))))))))))
(.br (.eq (.var 0) (.lit 5))
(.leaf (.cons (.var 0) (.cons (.lit 0) (.cons (.lit 0) (.cons (.lit 0) (.consb (.tt false) (.cons (.lit 0) (.cons (.lit 0) (.cons (.lit 0) (.cons (.var 8) .nil))))))))))
(.leaf (.cons (.var 0) (.cons (.lit 0) (.cons (.lit 0) (.cons (.lit 0) (.consb (.tt false) (.cons (.lit 0) (.cons (.lit 0) (.cons (.lit 0) (.cons (.lit 0) .nil))))))))))))))))
def kO:Spec:=⟨fun k=>match k with | _=>fun _=>[],fun k=>match k with | _=>fun _=>True⟩
set_option maxRecDepth 100000 in
theorem sM:aM tys_LiL [] [] [] [] 200 Try.f52 [.agg kIns] [.agg kIns] false [.int .i8,.int .i8,.int .i8,.int .i8,.bool,.int .i8,.int .i8,.int .i64,.int .i64] sT_jfields:=⟨by kernel_rfl,by kernel_rfl,by kernel_rfl⟩
set_option maxRecDepth 100000 in
set_option maxHeartbeats 8000000 in
theorem sL (x:Ins) (hx:Ins.ok x) (ρ:Env) (g:ah ρ 0 [.int .i8,.int .i8,.int .i8,.int .i8,.bool,.int .i8,.int .i8,.int .i64,.int .i64]=[.z x.k,.z x.op,.z x.w,.z x.sz,.z (b2i x.br),.z x.d,.z x.s,.z x.off,.z x.imm]):sT_jfields.asks kO (fun ρ e=>e.D ρ=cX [.z x.k,.z x.op,.z x.w,.z x.sz,.z (b2i x.br),.z x.d,.z x.s,.z x.off,.z x.imm]) ρ fun _ _=>False:=by
 simp only[ah,varD,List.cons.injEq,Dt.z.injEq,Dt.l.injEq,b2i_eq_iff,Nat.reduceAdd,and_true] at g
 simp only[sT_jfields,kO,cX,gH,Tr.asks,am,okDs,okD,eqs,E.I,E.B,E.L,E.R,E.D,E.vs,dI,dB,dL,varD,ah,List.getElem?_cons_zero,List.getElem?_cons_succ,List.cons_append,List.nil_append,Nat.zero_add,Nat.add_zero,Nat.reduceAdd,and_true,true_and,b2i_one,-eq_self,Ins.eta,Prog.eta,aa,Mem.eta,Mach.eta,g]
 refine⟨fun c0=> ?_,fun c0=> ?_⟩
 refine⟨fun c1=> ?_,fun c1=> ?_⟩
 refine⟨fun c2=> ?_,fun c2=> ?_⟩
 ·(unfold aC; simp_all)
 ·(unfold aC; simp_all)
 refine⟨fun c3=> ?_,fun c3=> ?_⟩
 ·(unfold aC; simp_all)
 ·(unfold aC; simp_all)
 refine⟨fun c4=> ?_,fun c4=> ?_⟩
 ·(unfold aC; simp_all)
 refine⟨fun c5=> ?_,fun c5=> ?_⟩
 ·(unfold aC; simp_all)
 refine⟨fun c6=> ?_,fun c6=> ?_⟩
 refine⟨fun c7=> ?_,fun c7=> ?_⟩
 ·(unfold aC; simp_all)
 ·(unfold aC; simp_all)
 refine⟨fun c8=> ?_,fun c8=> ?_⟩
 ·(unfold aC; simp_all)
 refine⟨fun c9=> ?_,fun c9=> ?_⟩
 ·(unfold aC; simp_all)
 ·(unfold aC; simp_all)
theorem sN {sp:Spec} {key:Nat} (hF:sp.F key=cX) (hP:sp.pre key=fun _=>True:=by rfl):SmOk Try.prog sp (gL key):=
 aS (s:=gL key) hF hP (by kernel_rfl) dH (sm0) Try.func52 fn0 sM (.inl rfl) (fun x0 gx0 x1 gx1 x2 gx2 x3 gx3 x4 x5 gx5 x6 gx6 x7 gx7 x8 gx8 hp ρ g=>sL ⟨x0,x1,x2,x3,x4,x5,x6,x7,x8⟩ ⟨gx0,gx1,gx2,gx3,gx5,gx6,gx7,gx8⟩ ρ g)
def po (key:Nat):Sm:=⟨33,key,[.agg kIns],[.one .bool],false⟩
def ph (x:Ins):List Dt:=[.z (b2i (imay x))]
def jI:List Dt→List Dt
 | [.z x0,.z x1,.z x2,.z x3,.z x4,.z x5,.z x6,.z x7,.z x8]=>ph ⟨x0,x1,x2,x3,(x4==1),x5,x6,x7,x8⟩
 | _=>[]
def sT_jmay:Tr:=
(.br (.lt (.var 0) (.lit 0))
(.leaf (.consb (.tt false) .nil))
(.br (.lt (.lit 6) (.var 0))
(.leaf (.consb (.tt false) .nil))
(.call 1 (kIns) (.vs 0 4 (.consb (.bvar 4) (.vs 5 4 .nil))) 9
(.br (.eq (.var 0) (.var 9))
(.br (.eq (.var 1) (.var 10))
(.br (.eq (.var 2) (.var 11))
(.br (.eq (.var 3) (.var 12))
(.br (.beq (.bvar 4) (.bvar 13))
(.br (.eq (.var 5) (.var 14))
(.br (.eq (.var 6) (.var 15))
(.br (.eq (.var 7) (.var 16))
(.br (.eq (.var 8) (.var 17))
(.br (.lt (.var 5) (.lit 0))
(.leaf (.consb (.tt false) .nil))
(.br (.lt (.lit 10) (.var 5))
(.leaf (.consb (.tt false) .nil))
(.br (.lt (.var 6) (.lit 0))
(.leaf (.consb (.tt false) .nil))
(.br (.lt (.lit 10) (.var 6))
(.leaf (.consb (.tt false) .nil))
(.br (.lt (.var 7) (.lit (-32768)))
(.leaf (.consb (.tt false) .nil))
(.br (.lt (.var 7) (.lit 32768))
(.br (.lt (.var 8) (.lit (-2147483648)))
(.leaf (.consb (.tt false) .nil))
(.br (.lt (.var 8) (.lit 2147483648))
(.br (.eq (.var 0) (.lit 0))
(.br (.lt (.var 1) (.lit 0))
(.leaf (.consb (.tt false) .nil))
(.br (.lt (.lit 12) (.var 1))
(.leaf (.consb (.tt false) .nil))
(.br (.eq (.var 2) (.lit 32))
(.leaf (.consb (.lt (.var 5) (.lit 10)) .nil))
(.br (.eq (.var 2) (.lit 64))
(.leaf (.consb (.lt (.var 5) (.lit 10)) .nil))
(.leaf (.consb (.tt false) .nil))))))
(.br (.eq (.var 0) (.lit 1))
(.call 0 [.bool] (.cons (.var 3) .nil) 18
(.br (.bvar 18)
(.leaf (.consb (.lt (.var 5) (.lit 10)) .nil))
(.leaf (.consb (.tt false) .nil))))
(.br (.eq (.var 0) (.lit 2))
(.call 0 [.bool] (.cons (.var 3) .nil) 18
(.leaf (.consb (.bvar 18) .nil)))
(.br (.eq (.var 0) (.lit 3))
(.br (.lt (.var 1) (.lit 0))
(.leaf (.consb (.tt false) .nil))
(.leaf (.consb (.not (.lt (.lit 10) (.var 1))) .nil)))
(.br (.eq (.var 0) (.lit 5))
(.br (.lt (.var 8) (.lit 0))
(.leaf (.consb (.tt false) .nil))
(.leaf (.consb (.lt (.var 8) (.lit 16)) .nil)))
(.leaf (.consb (.tt true) .nil)))))))
(.leaf (.consb (.tt false) .nil))))
(.leaf (.consb (.tt false) .nil))))))))
(.leaf (.consb (.tt false) .nil)))
(.leaf (.consb (.tt false) .nil)))
(.leaf (.consb (.tt false) .nil)))
(.leaf (.consb (.tt false) .nil)))
(.leaf (.consb (.tt false) .nil)))
(.leaf (.consb (.tt false) .nil)))
(.leaf (.consb (.tt false) .nil)))
(.leaf (.consb (.tt false) .nil)))
(.leaf (.consb (.tt false) .nil))))))
def vA:Spec:=⟨fun k=>match k with | 0=>nS | 1=>cX | _=>fun _=>[],fun k=>match k with | _=>fun _=>True⟩
set_option maxRecDepth 100000 in
theorem aaJ:aM tys_LiL [vE 0,gL 1] [] [] [] 200 Try.f33 [.agg kIns] [.one .bool] false [.int .i8,.int .i8,.int .i8,.int .i8,.bool,.int .i8,.int .i8,.int .i64,.int .i64] sT_jmay:=⟨by kernel_rfl,by kernel_rfl,by kernel_rfl⟩
set_option maxRecDepth 100000 in
set_option maxHeartbeats 8000000 in
theorem aay (x:Ins) (hx:Ins.ok x) (ρ:Env) (g:ah ρ 0 [.int .i8,.int .i8,.int .i8,.int .i8,.bool,.int .i8,.int .i8,.int .i64,.int .i64]=[.z x.k,.z x.op,.z x.w,.z x.sz,.z (b2i x.br),.z x.d,.z x.s,.z x.off,.z x.imm]):sT_jmay.asks vA (fun ρ e=>e.D ρ=jI [.z x.k,.z x.op,.z x.w,.z x.sz,.z (b2i x.br),.z x.d,.z x.s,.z x.off,.z x.imm]) ρ fun _ _=>False:=by
 simp only[ah,varD,List.cons.injEq,Dt.z.injEq,Dt.l.injEq,b2i_eq_iff,Nat.reduceAdd,and_true] at g
 simp only[sT_jmay,vA,kIns,nS,cX,vg,gH,jI,ph,Tr.asks,am,okDs,okD,eqs,E.I,E.B,E.L,E.R,E.D,E.vs,dI,dB,dL,varD,ah,List.getElem?_cons_zero,List.getElem?_cons_succ,List.cons_append,List.nil_append,Nat.zero_add,Nat.add_zero,Nat.reduceAdd,and_true,true_and,b2i_one,-eq_self,Ins.eta,Prog.eta,aa,Mem.eta,Mach.eta,g]
 refine⟨fun c0=> ?_,fun c0=> ?_⟩
 ·simp only[az,jm,be,c0,Bool.not_true,Bool.not_false,Bool.true_and,Bool.and_true,Bool.false_and,Bool.and_false,Bool.true_or,Bool.false_or,Bool.or_true,Bool.or_false]<;>simp only[bf,c0,reduceIte,Int.reduceEq,Bool.not_true,Bool.not_false,Bool.true_and,Bool.and_true,Bool.false_and,Bool.and_false,Bool.true_or,Bool.false_or,Bool.or_true,Bool.or_false]
 refine⟨fun c1=> ?_,fun c1=> ?_⟩
 ·simp only[az,jm,be,c0,c1,Bool.not_true,Bool.not_false,Bool.true_and,Bool.and_true,Bool.false_and,Bool.and_false,Bool.true_or,Bool.false_or,Bool.or_true,Bool.or_false]<;>simp only[bf,c0,c1,reduceIte,Int.reduceEq,Bool.not_true,Bool.not_false,Bool.true_and,Bool.and_true,Bool.false_and,Bool.and_false,Bool.true_or,Bool.false_or,Bool.or_true,Bool.or_false]
 intro e; (try simp only[e,Ins.eta,Prog.eta,aa,Mem.eta,Mach.eta,-eq_self]); clear e
 refine⟨fun c2=> ?_,fun c2=> ?_⟩
 refine⟨fun c3=> ?_,fun c3=> ?_⟩
 refine⟨fun c4=> ?_,fun c4=> ?_⟩
 refine⟨fun c5=> ?_,fun c5=> ?_⟩
 refine⟨fun c6=> ?_,fun c6=> ?_⟩
 refine⟨fun c7=> ?_,fun c7=> ?_⟩
 refine⟨fun c8=> ?_,fun c8=> ?_⟩
 refine⟨fun c9=> ?_,fun c9=> ?_⟩
 refine⟨fun c10=> ?_,fun c10=> ?_⟩
 refine⟨fun c11=> ?_,fun c11=> ?_⟩
 ·simp only[az,jm,be,c0,c1,c2,c3,c4,c5,c6,c7,c8,c9,c10,c11,Bool.not_true,Bool.not_false,Bool.true_and,Bool.and_true,Bool.false_and,Bool.and_false,Bool.true_or,Bool.false_or,Bool.or_true,Bool.or_false]<;>simp only[bf,c8,c9,c10,c11,reduceIte,Int.reduceEq,Bool.not_true,Bool.not_false,Bool.true_and,Bool.and_true,Bool.false_and,Bool.and_false,Bool.true_or,Bool.false_or,Bool.or_true,Bool.or_false]
 refine⟨fun c12=> ?_,fun c12=> ?_⟩
 ·simp only[az,jm,be,c0,c1,c2,c3,c4,c5,c6,c7,c8,c9,c10,c11,c12,Bool.not_true,Bool.not_false,Bool.true_and,Bool.and_true,Bool.false_and,Bool.and_false,Bool.true_or,Bool.false_or,Bool.or_true,Bool.or_false]<;>simp only[bf,c9,c10,c11,c12,reduceIte,Int.reduceEq,Bool.not_true,Bool.not_false,Bool.true_and,Bool.and_true,Bool.false_and,Bool.and_false,Bool.true_or,Bool.false_or,Bool.or_true,Bool.or_false]
 refine⟨fun c13=> ?_,fun c13=> ?_⟩
 ·simp only[az,jm,be,c0,c1,c2,c3,c4,c5,c6,c7,c8,c9,c10,c11,c12,c13,Bool.not_true,Bool.not_false,Bool.true_and,Bool.and_true,Bool.false_and,Bool.and_false,Bool.true_or,Bool.false_or,Bool.or_true,Bool.or_false]<;>simp only[bf,c10,c11,c12,c13,reduceIte,Int.reduceEq,Bool.not_true,Bool.not_false,Bool.true_and,Bool.and_true,Bool.false_and,Bool.and_false,Bool.true_or,Bool.false_or,Bool.or_true,Bool.or_false]
 refine⟨fun c14=> ?_,fun c14=> ?_⟩
 ·simp only[az,jm,be,c0,c1,c2,c3,c4,c5,c6,c7,c8,c9,c10,c11,c12,c13,c14,Bool.not_true,Bool.not_false,Bool.true_and,Bool.and_true,Bool.false_and,Bool.and_false,Bool.true_or,Bool.false_or,Bool.or_true,Bool.or_false]<;>simp only[bf,c11,c12,c13,c14,reduceIte,Int.reduceEq,Bool.not_true,Bool.not_false,Bool.true_and,Bool.and_true,Bool.false_and,Bool.and_false,Bool.true_or,Bool.false_or,Bool.or_true,Bool.or_false]
 refine⟨fun c15=> ?_,fun c15=> ?_⟩
 ·simp only[az,jm,be,c0,c1,c2,c3,c4,c5,c6,c7,c8,c9,c10,c11,c12,c13,c14,c15,Bool.not_true,Bool.not_false,Bool.true_and,Bool.and_true,Bool.false_and,Bool.and_false,Bool.true_or,Bool.false_or,Bool.or_true,Bool.or_false]<;>simp only[bf,c12,c13,c14,c15,reduceIte,Int.reduceEq,Bool.not_true,Bool.not_false,Bool.true_and,Bool.and_true,Bool.false_and,Bool.and_false,Bool.true_or,Bool.false_or,Bool.or_true,Bool.or_false]
 refine⟨fun c16=> ?_,fun c16=> ?_⟩
 refine⟨fun c17=> ?_,fun c17=> ?_⟩
 ·simp only[az,jm,be,c0,c1,c2,c3,c4,c5,c6,c7,c8,c9,c10,c11,c12,c13,c14,c15,c16,c17,Bool.not_true,Bool.not_false,Bool.true_and,Bool.and_true,Bool.false_and,Bool.and_false,Bool.true_or,Bool.false_or,Bool.or_true,Bool.or_false]<;>simp only[bf,c14,c15,c16,c17,reduceIte,Int.reduceEq,Bool.not_true,Bool.not_false,Bool.true_and,Bool.and_true,Bool.false_and,Bool.and_false,Bool.true_or,Bool.false_or,Bool.or_true,Bool.or_false]
 refine⟨fun c18=> ?_,fun c18=> ?_⟩
 refine⟨fun c19=> ?_,fun c19=> ?_⟩
 refine⟨fun c20=> ?_,fun c20=> ?_⟩
 ·simp only[az,jm,be,c0,c1,c2,c3,c4,c5,c6,c7,c8,c9,c10,c11,c12,c13,c14,c15,c16,c17,c18,c19,c20,Bool.not_true,Bool.not_false,Bool.true_and,Bool.and_true,Bool.false_and,Bool.and_false,Bool.true_or,Bool.false_or,Bool.or_true,Bool.or_false]<;>simp only[bf,eqI c19,c17,c18,c19,c20,reduceIte,Int.reduceEq,Bool.not_true,Bool.not_false,Bool.true_and,Bool.and_true,Bool.false_and,Bool.and_false,Bool.true_or,Bool.false_or,Bool.or_true,Bool.or_false]
 refine⟨fun c21=> ?_,fun c21=> ?_⟩
 ·simp only[az,jm,be,c0,c1,c2,c3,c4,c5,c6,c7,c8,c9,c10,c11,c12,c13,c14,c15,c16,c17,c18,c19,c20,c21,Bool.not_true,Bool.not_false,Bool.true_and,Bool.and_true,Bool.false_and,Bool.and_false,Bool.true_or,Bool.false_or,Bool.or_true,Bool.or_false]<;>simp only[bf,eqI c19,c18,c19,c20,c21,reduceIte,Int.reduceEq,Bool.not_true,Bool.not_false,Bool.true_and,Bool.and_true,Bool.false_and,Bool.and_false,Bool.true_or,Bool.false_or,Bool.or_true,Bool.or_false]
 refine⟨fun c22=> ?_,fun c22=> ?_⟩
 ·simp only[az,jm,be,c0,c1,c2,c3,c4,c5,c6,c7,c8,c9,c10,c11,c12,c13,c14,c15,c16,c17,c18,c19,c20,c21,c22,Bool.not_true,Bool.not_false,Bool.true_and,Bool.and_true,Bool.false_and,Bool.and_false,Bool.true_or,Bool.false_or,Bool.or_true,Bool.or_false]<;>simp only[bf,eqI c19,c19,c20,c21,c22,reduceIte,Int.reduceEq,Bool.not_true,Bool.not_false,Bool.true_and,Bool.and_true,Bool.false_and,Bool.and_false,Bool.true_or,Bool.false_or,Bool.or_true,Bool.or_false]
 refine⟨fun c23=> ?_,fun c23=> ?_⟩
 ·simp only[az,jm,be,c0,c1,c2,c3,c4,c5,c6,c7,c8,c9,c10,c11,c12,c13,c14,c15,c16,c17,c18,c19,c20,c21,c22,c23,Bool.not_true,Bool.not_false,Bool.true_and,Bool.and_true,Bool.false_and,Bool.and_false,Bool.true_or,Bool.false_or,Bool.or_true,Bool.or_false]<;>simp only[bf,eqI c19,c20,c21,c22,c23,reduceIte,Int.reduceEq,Bool.not_true,Bool.not_false,Bool.true_and,Bool.and_true,Bool.false_and,Bool.and_false,Bool.true_or,Bool.false_or,Bool.or_true,Bool.or_false]
 ·simp only[az,jm,be,c0,c1,c2,c3,c4,c5,c6,c7,c8,c9,c10,c11,c12,c13,c14,c15,c16,c17,c18,c19,c20,c21,c22,c23,Bool.not_true,Bool.not_false,Bool.true_and,Bool.and_true,Bool.false_and,Bool.and_false,Bool.true_or,Bool.false_or,Bool.or_true,Bool.or_false]<;>simp only[bf,eqI c19,c20,c21,c22,c23,reduceIte,Int.reduceEq,Bool.not_true,Bool.not_false,Bool.true_and,Bool.and_true,Bool.false_and,Bool.and_false,Bool.true_or,Bool.false_or,Bool.or_true,Bool.or_false]
 refine⟨fun c24=> ?_,fun c24=> ?_⟩
 intro e; (try simp only[e,Ins.eta,Prog.eta,aa,Mem.eta,Mach.eta,-eq_self]); clear e
 refine⟨fun c25=> ?_,fun c25=> ?_⟩
 ·simp only[az,jm,be,c0,c1,c2,c3,c4,c5,c6,c7,c8,c9,c10,c11,c12,c13,c14,c15,c16,c17,c18,c19,c24,c25,Bool.not_true,Bool.not_false,Bool.true_and,Bool.and_true,Bool.false_and,Bool.and_false,Bool.true_or,Bool.false_or,Bool.or_true,Bool.or_false]<;>simp only[bf,neI c19,eqI c24,c18,c19,c24,c25,reduceIte,Int.reduceEq,Bool.not_true,Bool.not_false,Bool.true_and,Bool.and_true,Bool.false_and,Bool.and_false,Bool.true_or,Bool.false_or,Bool.or_true,Bool.or_false]
 ·simp only[az,jm,be,c0,c1,c2,c3,c4,c5,c6,c7,c8,c9,c10,c11,c12,c13,c14,c15,c16,c17,c18,c19,c24,c25,Bool.not_true,Bool.not_false,Bool.true_and,Bool.and_true,Bool.false_and,Bool.and_false,Bool.true_or,Bool.false_or,Bool.or_true,Bool.or_false]<;>simp only[bf,neI c19,eqI c24,c18,c19,c24,c25,reduceIte,Int.reduceEq,Bool.not_true,Bool.not_false,Bool.true_and,Bool.and_true,Bool.false_and,Bool.and_false,Bool.true_or,Bool.false_or,Bool.or_true,Bool.or_false]
 refine⟨fun c26=> ?_,fun c26=> ?_⟩
 intro e; (try simp only[e,Ins.eta,Prog.eta,aa,Mem.eta,Mach.eta,-eq_self]); clear e
 ·simp only[az,jm,be,c0,c1,c2,c3,c4,c5,c6,c7,c8,c9,c10,c11,c12,c13,c14,c15,c16,c17,c18,c19,c24,c26,Bool.not_true,Bool.not_false,Bool.true_and,Bool.and_true,Bool.false_and,Bool.and_false,Bool.true_or,Bool.false_or,Bool.or_true,Bool.or_false]<;>simp only[bf,neI c19,neI c24,eqI c26,c18,c19,c24,c26,reduceIte,Int.reduceEq,Bool.not_true,Bool.not_false,Bool.true_and,Bool.and_true,Bool.false_and,Bool.and_false,Bool.true_or,Bool.false_or,Bool.or_true,Bool.or_false]
 refine⟨fun c27=> ?_,fun c27=> ?_⟩
 refine⟨fun c28=> ?_,fun c28=> ?_⟩
 ·simp only[az,jm,be,c0,c1,c2,c3,c4,c5,c6,c7,c8,c9,c10,c11,c12,c13,c14,c15,c16,c17,c18,c19,c24,c26,c27,c28,Bool.not_true,Bool.not_false,Bool.true_and,Bool.and_true,Bool.false_and,Bool.and_false,Bool.true_or,Bool.false_or,Bool.or_true,Bool.or_false]<;>simp only[bf,neI c19,neI c24,neI c26,eqI c27,c24,c26,c27,c28,reduceIte,Int.reduceEq,Bool.not_true,Bool.not_false,Bool.true_and,Bool.and_true,Bool.false_and,Bool.and_false,Bool.true_or,Bool.false_or,Bool.or_true,Bool.or_false]
 ·simp only[az,jm,be,c0,c1,c2,c3,c4,c5,c6,c7,c8,c9,c10,c11,c12,c13,c14,c15,c16,c17,c18,c19,c24,c26,c27,c28,Bool.not_true,Bool.not_false,Bool.true_and,Bool.and_true,Bool.false_and,Bool.and_false,Bool.true_or,Bool.false_or,Bool.or_true,Bool.or_false]<;>simp only[bf,neI c19,neI c24,neI c26,eqI c27,c24,c26,c27,c28,reduceIte,Int.reduceEq,Bool.not_true,Bool.not_false,Bool.true_and,Bool.and_true,Bool.false_and,Bool.and_false,Bool.true_or,Bool.false_or,Bool.or_true,Bool.or_false]
 refine⟨fun c29=> ?_,fun c29=> ?_⟩
 refine⟨fun c30=> ?_,fun c30=> ?_⟩
 ·simp only[az,jm,be,c0,c1,c2,c3,c4,c5,c6,c7,c8,c9,c10,c11,c12,c13,c14,c15,c16,c17,c18,c19,c24,c26,c27,c29,c30,Bool.not_true,Bool.not_false,Bool.true_and,Bool.and_true,Bool.false_and,Bool.and_false,Bool.true_or,Bool.false_or,Bool.or_true,Bool.or_false]<;>simp only[bf,neI c19,neI c24,neI c26,neI c27,eqI c29,c26,c27,c29,c30,reduceIte,Int.reduceEq,Bool.not_true,Bool.not_false,Bool.true_and,Bool.and_true,Bool.false_and,Bool.and_false,Bool.true_or,Bool.false_or,Bool.or_true,Bool.or_false]
 ·simp only[az,jm,be,c0,c1,c2,c3,c4,c5,c6,c7,c8,c9,c10,c11,c12,c13,c14,c15,c16,c17,c18,c19,c24,c26,c27,c29,c30,Bool.not_true,Bool.not_false,Bool.true_and,Bool.and_true,Bool.false_and,Bool.and_false,Bool.true_or,Bool.false_or,Bool.or_true,Bool.or_false]<;>simp only[bf,neI c19,neI c24,neI c26,neI c27,eqI c29,c26,c27,c29,c30,reduceIte,Int.reduceEq,Bool.not_true,Bool.not_false,Bool.true_and,Bool.and_true,Bool.false_and,Bool.and_false,Bool.true_or,Bool.false_or,Bool.or_true,Bool.or_false]
 ·simp only[az,jm,be,c0,c1,c2,c3,c4,c5,c6,c7,c8,c9,c10,c11,c12,c13,c14,c15,c16,c17,c18,c19,c24,c26,c27,c29,Bool.not_true,Bool.not_false,Bool.true_and,Bool.and_true,Bool.false_and,Bool.and_false,Bool.true_or,Bool.false_or,Bool.or_true,Bool.or_false]<;>simp only[bf,neI c19,neI c24,neI c26,neI c27,neI c29,c24,c26,c27,c29,reduceIte,Int.reduceEq,Bool.not_true,Bool.not_false,Bool.true_and,Bool.and_true,Bool.false_and,Bool.and_false,Bool.true_or,Bool.false_or,Bool.or_true,Bool.or_false]
 ·simp only[az,jm,be,c0,c1,c2,c3,c4,c5,c6,c7,c8,c9,c10,c11,c12,c13,c14,c15,c16,c17,c18,Bool.not_true,Bool.not_false,Bool.true_and,Bool.and_true,Bool.false_and,Bool.and_false,Bool.true_or,Bool.false_or,Bool.or_true,Bool.or_false]<;>simp only[bf,c15,c16,c17,c18,reduceIte,Int.reduceEq,Bool.not_true,Bool.not_false,Bool.true_and,Bool.and_true,Bool.false_and,Bool.and_false,Bool.true_or,Bool.false_or,Bool.or_true,Bool.or_false]
 ·simp only[az,jm,be,c0,c1,c2,c3,c4,c5,c6,c7,c8,c9,c10,c11,c12,c13,c14,c15,c16,Bool.not_true,Bool.not_false,Bool.true_and,Bool.and_true,Bool.false_and,Bool.and_false,Bool.true_or,Bool.false_or,Bool.or_true,Bool.or_false]<;>simp only[bf,c13,c14,c15,c16,reduceIte,Int.reduceEq,Bool.not_true,Bool.not_false,Bool.true_and,Bool.and_true,Bool.false_and,Bool.and_false,Bool.true_or,Bool.false_or,Bool.or_true,Bool.or_false]
 ·simp only[az,jm,be,c0,c1,c2,c3,c4,c5,c6,c7,c8,c9,c10,Bool.not_true,Bool.not_false,Bool.true_and,Bool.and_true,Bool.false_and,Bool.and_false,Bool.true_or,Bool.false_or,Bool.or_true,Bool.or_false]<;>simp only[bf,c7,c8,c9,c10,reduceIte,Int.reduceEq,Bool.not_true,Bool.not_false,Bool.true_and,Bool.and_true,Bool.false_and,Bool.and_false,Bool.true_or,Bool.false_or,Bool.or_true,Bool.or_false]
 ·simp only[az,jm,be,c0,c1,c2,c3,c4,c5,c6,c7,c8,c9,Bool.not_true,Bool.not_false,Bool.true_and,Bool.and_true,Bool.false_and,Bool.and_false,Bool.true_or,Bool.false_or,Bool.or_true,Bool.or_false]<;>simp only[bf,c6,c7,c8,c9,reduceIte,Int.reduceEq,Bool.not_true,Bool.not_false,Bool.true_and,Bool.and_true,Bool.false_and,Bool.and_false,Bool.true_or,Bool.false_or,Bool.or_true,Bool.or_false]
 ·simp only[az,jm,be,c0,c1,c2,c3,c4,c5,c6,c7,c8,Bool.not_true,Bool.not_false,Bool.true_and,Bool.and_true,Bool.false_and,Bool.and_false,Bool.true_or,Bool.false_or,Bool.or_true,Bool.or_false]<;>simp only[bf,c5,c6,c7,c8,reduceIte,Int.reduceEq,Bool.not_true,Bool.not_false,Bool.true_and,Bool.and_true,Bool.false_and,Bool.and_false,Bool.true_or,Bool.false_or,Bool.or_true,Bool.or_false]
 ·simp only[az,jm,be,c0,c1,c2,c3,c4,c5,c6,c7,Bool.not_true,Bool.not_false,Bool.true_and,Bool.and_true,Bool.false_and,Bool.and_false,Bool.true_or,Bool.false_or,Bool.or_true,Bool.or_false]<;>simp only[bf,c4,c5,c6,c7,reduceIte,Int.reduceEq,Bool.not_true,Bool.not_false,Bool.true_and,Bool.and_true,Bool.false_and,Bool.and_false,Bool.true_or,Bool.false_or,Bool.or_true,Bool.or_false]
 ·simp only[az,jm,be,c0,c1,c2,c3,c4,c5,c6,Bool.not_true,Bool.not_false,Bool.true_and,Bool.and_true,Bool.false_and,Bool.and_false,Bool.true_or,Bool.false_or,Bool.or_true,Bool.or_false]<;>simp only[bf,c3,c4,c5,c6,reduceIte,Int.reduceEq,Bool.not_true,Bool.not_false,Bool.true_and,Bool.and_true,Bool.false_and,Bool.and_false,Bool.true_or,Bool.false_or,Bool.or_true,Bool.or_false]
 ·simp only[az,jm,be,c0,c1,c2,c3,c4,c5,Bool.not_true,Bool.not_false,Bool.true_and,Bool.and_true,Bool.false_and,Bool.and_false,Bool.true_or,Bool.false_or,Bool.or_true,Bool.or_false]<;>simp only[bf,c2,c3,c4,c5,reduceIte,Int.reduceEq,Bool.not_true,Bool.not_false,Bool.true_and,Bool.and_true,Bool.false_and,Bool.and_false,Bool.true_or,Bool.false_or,Bool.or_true,Bool.or_false]
 ·simp only[az,jm,be,c0,c1,c2,c3,c4,Bool.not_true,Bool.not_false,Bool.true_and,Bool.and_true,Bool.false_and,Bool.and_false,Bool.true_or,Bool.false_or,Bool.or_true,Bool.or_false]<;>simp only[bf,c1,c2,c3,c4,reduceIte,Int.reduceEq,Bool.not_true,Bool.not_false,Bool.true_and,Bool.and_true,Bool.false_and,Bool.and_false,Bool.true_or,Bool.false_or,Bool.or_true,Bool.or_false]
 ·simp only[az,jm,be,c0,c1,c2,c3,Bool.not_true,Bool.not_false,Bool.true_and,Bool.and_true,Bool.false_and,Bool.and_false,Bool.true_or,Bool.false_or,Bool.or_true,Bool.or_false]<;>simp only[bf,c0,c1,c2,c3,reduceIte,Int.reduceEq,Bool.not_true,Bool.not_false,Bool.true_and,Bool.and_true,Bool.false_and,Bool.and_false,Bool.true_or,Bool.false_or,Bool.or_true,Bool.or_false]
 ·simp only[az,jm,be,c0,c1,c2,Bool.not_true,Bool.not_false,Bool.true_and,Bool.and_true,Bool.false_and,Bool.and_false,Bool.true_or,Bool.false_or,Bool.or_true,Bool.or_false]<;>simp only[bf,c0,c1,c2,reduceIte,Int.reduceEq,Bool.not_true,Bool.not_false,Bool.true_and,Bool.and_true,Bool.false_and,Bool.and_false,Bool.true_or,Bool.false_or,Bool.or_true,Bool.or_false]
theorem aaQ {sp:Spec} {key:Nat} (hF:sp.F key=jI) (hP:sp.pre key=fun _=>True:=by rfl):SmOk Try.prog sp (po key):=
 aS (s:=po key) hF hP (by kernel_rfl) dH (smc (ace rfl) (smc (sN rfl) sm0)) Try.func33 fn0 aaJ (.inl rfl) (fun x0 gx0 x1 gx1 x2 gx2 x3 gx3 x4 x5 gx5 x6 gx6 x7 gx7 x8 gx8 hp ρ g=>aay ⟨x0,x1,x2,x3,x4,x5,x6,x7,x8⟩ ⟨gx0,gx1,gx2,gx3,gx5,gx6,gx7,gx8⟩ ρ g)
def lW (key:Nat):Sm:=⟨22,key,[.one (.int .i64),.agg kIns],[.one (.int .i64),.one .bool],true⟩
def lS (i:Int) (x:Ins):List Dt:=[.z ((itgt i x).1),.z (b2i ((itgt i x).2))]
def fi:List Dt→List Dt
 | [.z x0,.z x1,.z x2,.z x3,.z x4,.z x5,.z x6,.z x7,.z x8,.z x9]=>lS x0 ⟨x1,x2,x3,x4,(x5==1),x6,x7,x8,x9⟩
 | _=>[]
def sT_jtgt:Tr:=
(.br (.eq (.var 1) (.lit 3))
(.br (.lt (.var 0) (.lit (-1099511627776)))
(.leaf (.cons (.lit 0) (.consb (.tt false) .nil)))
(.br (.lt (.lit 1099511627776) (.var 0))
(.leaf (.cons (.lit 0) (.consb (.tt false) .nil)))
(.br (.lt (.var 8) (.lit (-1099511627776)))
(.leaf (.cons (.lit 0) (.consb (.tt false) .nil)))
(.br (.lt (.lit 1099511627776) (.var 8))
(.leaf (.cons (.lit 0) (.consb (.tt false) .nil)))
(.leaf (.cons (.bin .add .i64 (.bin .add .i64 (.var 0) (.lit 1)) (.var 8)) (.consb (.tt true) .nil)))))))
(.br (.eq (.var 1) (.lit 4))
(.br (.lt (.var 0) (.lit (-1099511627776)))
(.leaf (.cons (.lit 0) (.consb (.tt false) .nil)))
(.br (.lt (.lit 1099511627776) (.var 0))
(.leaf (.cons (.lit 0) (.consb (.tt false) .nil)))
(.br (.lt (.var 8) (.lit (-1099511627776)))
(.leaf (.cons (.lit 0) (.consb (.tt false) .nil)))
(.br (.lt (.lit 1099511627776) (.var 8))
(.leaf (.cons (.lit 0) (.consb (.tt false) .nil)))
(.leaf (.cons (.bin .add .i64 (.bin .add .i64 (.var 0) (.lit 1)) (.var 8)) (.consb (.tt true) .nil)))))))
(.leaf (.cons (.lit 0) (.consb (.tt false) .nil)))))
def vy:Spec:=⟨fun k=>match k with | _=>fun _=>[],fun k=>match k with | _=>fun _=>True⟩
set_option maxRecDepth 100000 in
theorem aaH:aM tys_LiL [] [] [] [] 200 Try.f22 [.one (.int .i64),.agg kIns] [.one (.int .i64),.one .bool] true [.int .i64,.int .i8,.int .i8,.int .i8,.int .i8,.bool,.int .i8,.int .i8,.int .i64,.int .i64] sT_jtgt:=⟨by kernel_rfl,by kernel_rfl,by kernel_rfl⟩
set_option maxRecDepth 100000 in
set_option maxHeartbeats 8000000 in
theorem aaw (i:Int) (hi:inK .i64 i=true) (x:Ins) (hx:Ins.ok x) (ρ:Env) (g:ah ρ 0 [.int .i64,.int .i8,.int .i8,.int .i8,.int .i8,.bool,.int .i8,.int .i8,.int .i64,.int .i64]=[.z i,.z x.k,.z x.op,.z x.w,.z x.sz,.z (b2i x.br),.z x.d,.z x.s,.z x.off,.z x.imm]):sT_jtgt.asks vy (fun ρ e=>e.D ρ=fi [.z i,.z x.k,.z x.op,.z x.w,.z x.sz,.z (b2i x.br),.z x.d,.z x.s,.z x.off,.z x.imm]) ρ fun _ _=>False:=by
 simp only[ah,varD,List.cons.injEq,Dt.z.injEq,Dt.l.injEq,b2i_eq_iff,Nat.reduceAdd,and_true] at g
 simp only[sT_jtgt,vy,fi,lS,Tr.asks,am,okDs,okD,eqs,E.I,E.B,E.L,E.R,E.D,E.vs,dI,dB,dL,varD,ah,List.getElem?_cons_zero,List.getElem?_cons_succ,List.cons_append,List.nil_append,Nat.zero_add,Nat.add_zero,Nat.reduceAdd,and_true,true_and,b2i_one,-eq_self,Ins.eta,Prog.eta,aa,Mem.eta,Mach.eta,g]
 refine⟨fun c0=> ?_,fun c0=> ?_⟩
 refine⟨fun c1=> ?_,fun c1=> ?_⟩
 ·rw[kZ (by have:=of_decide_eq_true c1; simp; omega)]; try rfl
 refine⟨fun c2=> ?_,fun c2=> ?_⟩
 ·rw[kZ (by have:=of_decide_eq_true c2; simp; omega)]; try rfl
 refine⟨fun c3=> ?_,fun c3=> ?_⟩
 ·rw[kY (by have:=of_decide_eq_true c3; simp; omega)]; try rfl
 refine⟨fun c4=> ?_,fun c4=> ?_⟩
 ·rw[kY (by have:=of_decide_eq_true c4; simp; omega)]; try rfl
 ·rw[kX (.inl (eqI c0)) (by have q1:=of_decide_eq_false c1; have q2:=of_decide_eq_false c2; simp; omega) (by have q1:=of_decide_eq_false c3; have q2:=of_decide_eq_false c4; simp; omega)]; try rfl
 refine⟨fun c5=> ?_,fun c5=> ?_⟩
 refine⟨fun c6=> ?_,fun c6=> ?_⟩
 ·rw[kZ (by have:=of_decide_eq_true c6; simp; omega)]; try rfl
 refine⟨fun c7=> ?_,fun c7=> ?_⟩
 ·rw[kZ (by have:=of_decide_eq_true c7; simp; omega)]; try rfl
 refine⟨fun c8=> ?_,fun c8=> ?_⟩
 ·rw[kY (by have:=of_decide_eq_true c8; simp; omega)]; try rfl
 refine⟨fun c9=> ?_,fun c9=> ?_⟩
 ·rw[kY (by have:=of_decide_eq_true c9; simp; omega)]; try rfl
 ·rw[kX (.inr (eqI c5)) (by have q1:=of_decide_eq_false c6; have q2:=of_decide_eq_false c7; simp; omega) (by have q1:=of_decide_eq_false c8; have q2:=of_decide_eq_false c9; simp; omega)]; try rfl
 ·rw[zL c0 c5]; try rfl
theorem vJ {sp:Spec} {key:Nat} (hF:sp.F key=fi) (hP:sp.pre key=fun _=>True:=by rfl):SmOk Try.prog sp (lW key):=
 aS (s:=lW key) hF hP (by kernel_rfl) dH (sm0) Try.func22 fn0 aaH (.inl rfl) (fun x0 gx0 x1 gx1 x2 gx2 x3 gx3 x4 gx4 x5 x6 gx6 x7 gx7 x8 gx8 x9 gx9 hp ρ g=>aaw x0 gx0 ⟨x1,x2,x3,x4,x5,x6,x7,x8,x9⟩ ⟨gx1,gx2,gx3,gx4,gx6,gx7,gx8,gx9⟩ ρ g)
def jC (key:Nat):Sm:=⟨18,key,[.agg kD],[.one (.int .i64),.one (.int .i64)],true⟩
def jr (pr:Prog):List Dt:=[.z ((aF pr).1),.z ((aF pr).2)]
def dT:List Dt→List Dt
 | [.z x0,.l x1]=>jr ⟨x0,x1⟩
 | _=>[]
def sT_jcheck:Tr:=
(.br (.lt (.var 0) (.lit 0))
(.leaf (.cons (.lit 0) (.cons (.lit 2) .nil)))
(.br (.lt (.lit 256) (.var 0))
(.leaf (.cons (.lit 0) (.cons (.lit 2) .nil)))
(.br (.lt (.len (.lvar 1)) (.lit 1))
(.leaf (.cons (.lit 0) (.cons (.lit 3) .nil)))
(.br (.lt (.lit 64) (.len (.lvar 1)))
(.leaf (.cons (.lit 0) (.cons (.lit 3) .nil)))
(.loop 0 2 [.int .i64] (.cons (.lit 0) .nil)
(.br (.lt (.var 2) (.len (.lvar 1)))
(.br (.lt (.var 2) (.lit 0))
.panic
(.call 0 [.bool] (.cons (.get (.lvar 1) (.var 2) 0) (.cons (.get (.lvar 1) (.var 2) 1) (.cons (.get (.lvar 1) (.var 2) 2) (.cons (.get (.lvar 1) (.var 2) 3) (.consb (.getb (.lvar 1) (.var 2) 4) (.cons (.get (.lvar 1) (.var 2) 5) (.cons (.get (.lvar 1) (.var 2) 6) (.cons (.get (.lvar 1) (.var 2) 7) (.cons (.get (.lvar 1) (.var 2) 8) .nil))))))))) 3
(.br (.bvar 3)
(.call 1 [.int .i64,.bool] (.cons (.var 2) (.cons (.get (.lvar 1) (.var 2) 0) (.cons (.get (.lvar 1) (.var 2) 1) (.cons (.get (.lvar 1) (.var 2) 2) (.cons (.get (.lvar 1) (.var 2) 3) (.consb (.getb (.lvar 1) (.var 2) 4) (.cons (.get (.lvar 1) (.var 2) 5) (.cons (.get (.lvar 1) (.var 2) 6) (.cons (.get (.lvar 1) (.var 2) 7) (.cons (.get (.lvar 1) (.var 2) 8) .nil)))))))))) 4
(.br (.bvar 5)
(.br (.lt (.var 4) (.lit 0))
(.leaf (.cons (.var 2) (.cons (.lit 32) .nil)))
(.br (.lt (.var 4) (.len (.lvar 1)))
(.next 0 (.cons (.bin .add .i64 (.var 2) (.lit 1)) .nil))
(.leaf (.cons (.var 2) (.cons (.lit 32) .nil)))))
(.next 0 (.cons (.bin .add .i64 (.var 2) (.lit 1)) .nil))))
(.leaf (.cons (.var 2) (.cons (.lit 31) .nil))))))
(.br (.lt (.bin .sub .i64 (.len (.lvar 1)) (.lit 1)) (.lit 0))
.panic
(.br (.lt (.bin .sub .i64 (.len (.lvar 1)) (.lit 1)) (.len (.lvar 1)))
(.br (.eq (.get (.lvar 1) (.bin .sub .i64 (.len (.lvar 1)) (.lit 1)) 0) (.lit 4))
(.leaf (.cons (.lit 0) (.cons (.lit 0) .nil)))
(.br (.eq (.get (.lvar 1) (.bin .sub .i64 (.len (.lvar 1)) (.lit 1)) 0) (.lit 6))
(.leaf (.cons (.lit 0) (.cons (.lit 0) .nil)))
(.leaf (.cons (.bin .sub .i64 (.len (.lvar 1)) (.lit 1)) (.cons (.lit 33) .nil)))))
.panic))))))))
def nN:Spec:=⟨fun k=>match k with | 0=>jI | 1=>fi | _=>fun _=>[],fun k=>match k with | _=>fun _=>True⟩
set_option maxRecDepth 100000 in
theorem vq:aM tys_LiL [po 0,lW 1] [] [(7,[.tmpI 5 .i64,.top 25,.top 26,.top 27,.top 30,.top 31,.top 32,.top 33,.top 34,.top 35,.top 36,.top 37,.top 2,.top 3,.top 39,.top 40,.top 41,.top 42,.top 43,.top 44,.top 45,.top 38,.top 46,.top 47,.top 6,.top 7,.top 48,.top 49,.top 50,.top 51,.top 52,.top 53,.top 54,.top 55,.top 56,.top 57,.top 58,.top 28,.top 29])] [] 200 Try.f18 [.agg kD] [.one (.int .i64),.one (.int .i64)] true [.int .i64,.list [some .i8,some .i8,some .i8,some .i8,none,some .i8,some .i8,some .i64,some .i64]] sT_jcheck:=⟨by kernel_rfl,by kernel_rfl,by kernel_rfl⟩
def cW:List Dt→Prop
 | [.z x0,.l x1]=>let f (pr:Prog):Prop:=pr.l.length≤maxLen; f ⟨x0,x1⟩
 | _=>False
set_option maxRecDepth 100000 in
set_option maxHeartbeats 8000000 in
theorem ve (pr:Prog) (hpr:Prog.ok pr) (hp:cW [.z pr.ctx,.l pr.l]) (ρ:Env) (g:ah ρ 0 [.int .i64,.list [some .i8,some .i8,some .i8,some .i8,none,some .i8,some .i8,some .i64,some .i64]]=[.z pr.ctx,.l pr.l]):sT_jcheck.asks nN (fun ρ e=>e.D ρ=dT [.z pr.ctx,.l pr.l]) ρ fun _ _=>False:=by
 simp only[cW,b2i_one,Ins.eta,Prog.eta,aa,Mem.eta,Mach.eta] at hp
 have keepg:=g
 simp only[ah,varD,List.cons.injEq,Dt.z.injEq,Dt.l.injEq,b2i_eq_iff,Nat.reduceAdd,and_true] at g
 simp only[sT_jcheck,nN,jI,fi,ph,lS,dT,jr,Tr.asks,am,okDs,okD,eqs,E.I,E.B,E.L,E.R,E.D,E.vs,dI,dB,dL,varD,ah,List.getElem?_cons_zero,List.getElem?_cons_succ,List.cons_append,List.nil_append,Nat.zero_add,Nat.add_zero,Nat.reduceAdd,and_true,true_and,b2i_one,-eq_self,Ins.eta,Prog.eta,aa,Mem.eta,Mach.eta,g]
 have hp:=hpr.2.len
 have hla:=abw hp
 refine⟨fun c0=> ?_,fun c0=> ?_⟩
 ·rw[hU (by have q:=of_decide_eq_true c0; simp; omega)]; try rfl
 refine⟨fun c1=> ?_,fun c1=> ?_⟩
 ·rw[hU (by have q:=of_decide_eq_true c1; simp; omega)]; try rfl
 refine⟨fun c2=> ?_,fun c2=> ?_⟩
 ·rw[hG (by have q1:=of_decide_eq_false c0; have q2:=of_decide_eq_false c1; simp; omega) (by have q:=of_decide_eq_true c2; rw[hla]; simp; omega)]; try rfl
 refine⟨fun c3=> ?_,fun c3=> ?_⟩
 ·rw[hG (by have q1:=of_decide_eq_false c0; have q2:=of_decide_eq_false c1; simp; omega) (by have q:=of_decide_eq_true c3; rw[hla]; simp; omega)]; try rfl
 have hC:(decide (0≤pr.ctx)&&decide (pr.ctx≤256))=true:=by have q1:=of_decide_eq_false c0; have q2:=of_decide_eq_false c1; simp; omega
 have hL:(decide (0≤pr.last)&&decide (pr.last≤63))=true:=by have q1:=of_decide_eq_false c2; have q2:=of_decide_eq_false c3; rw[hla]; simp; omega
 refine⟨fun ds=>∃n:Nat,ds=[.z (n:Int)]∧n≤pr.l.length∧(scan pr pr.l.length 0=scan pr (pr.l.length-n) n),fun ds=>(pr.l.length-(dI ds 0).toNat),⟨0,rfl,Nat.zero_le _,rfl⟩,?_⟩
 intro ρ1 ha1 _ hi1
 obtain⟨n,hds,r1,r2⟩:=hi1
 simp only[List.cons.injEq,Dt.z.injEq,and_true] at hds
 have g1:=(lG ha1 _ 0 (by decide)).trans keepg
 simp only[ah,varD,List.cons.injEq,Dt.z.injEq,Dt.l.injEq,b2i_eq_iff,Nat.reduceAdd,and_true] at g1
 simp only[g1,hds,aa,-eq_self]
 refine⟨fun c4=> ?_,fun c4=> ?_⟩
 refine⟨fun c5=> ?_,fun c5=> ?_⟩
 ·exact absurd (of_decide_eq_true c5) (by omega)
 intro e; (try simp only[e,Ins.eta,Prog.eta,aa,Mem.eta,Mach.eta,-eq_self]); clear e
 refine⟨fun c6=> ?_,fun c6=> ?_⟩
 intro e; (try simp only[e,Ins.eta,Prog.eta,aa,Mem.eta,Mach.eta,-eq_self]); clear e
 refine⟨fun c7=> ?_,fun c7=> ?_⟩
 refine⟨fun c8=> ?_,fun c8=> ?_⟩
 ·rw[db hC hL r2 (Int.ofNat_lt.1 (of_decide_eq_true c4)) (mP c6 c7 (by have q:=of_decide_eq_true c8; rw[hla]; simp; omega))]; try rfl
 refine⟨fun c9=> ?_,fun c9=> ?_⟩
 ·exact⟨⟨n+1,by rw[addN (Int.ofNat_lt.1 (of_decide_eq_true c4)) hp],(Int.ofNat_lt.1 (of_decide_eq_true c4)),r2.trans (fI (Int.ofNat_lt.1 (of_decide_eq_true c4)) (je c6 (.inr (by have q1:=of_decide_eq_false c8; have q2:=of_decide_eq_true c9; rw[hla]; simp; omega))))⟩,by rw[addN (Int.ofNat_lt.1 (of_decide_eq_true c4)) hp]; show pr.l.length-(((n+1:Nat):Int)).toNat<pr.l.length-((n:Int)).toNat; have:=(Int.ofNat_lt.1 (of_decide_eq_true c4)); omega⟩
 ·rw[db hC hL r2 (Int.ofNat_lt.1 (of_decide_eq_true c4)) (mP c6 c7 (by have q:=of_decide_eq_false c9; rw[hla]; simp; omega))]; try rfl
 ·exact⟨⟨n+1,by rw[addN (Int.ofNat_lt.1 (of_decide_eq_true c4)) hp],(Int.ofNat_lt.1 (of_decide_eq_true c4)),r2.trans (fI (Int.ofNat_lt.1 (of_decide_eq_true c4)) (je c6 (.inl c7)))⟩,by rw[addN (Int.ofNat_lt.1 (of_decide_eq_true c4)) hp]; show pr.l.length-(((n+1:Nat):Int)).toNat<pr.l.length-((n:Int)).toNat; have:=(Int.ofNat_lt.1 (of_decide_eq_true c4)); omega⟩
 ·rw[db hC hL r2 (Int.ofNat_lt.1 (of_decide_eq_true c4)) (oU c6)]; try rfl
 refine⟨fun c10=> ?_,fun c10=> ?_⟩
 ·have q:=of_decide_eq_true c10
  have w:opI .sub .i64 (pr.l.length:Int) 1=_:=hla
  rw[w] at q
  have q3:=of_decide_eq_false c2
  omega
 refine⟨fun c11=> ?_,fun c11=> ?_⟩
 refine⟨fun c12=> ?_,fun c12=> ?_⟩
 ·rw[cn hC hL r2 (by have:=of_decide_eq_false c4; omega),if_pos (.inl (eqI c12))]; try rfl
 refine⟨fun c13=> ?_,fun c13=> ?_⟩
 ·rw[cn hC hL r2 (by have:=of_decide_eq_false c4; omega),if_pos (.inr (eqI c13))]; try rfl
 ·rw[cn hC hL r2 (by have:=of_decide_eq_false c4; omega),if_neg (fun h=>h.elim (neI c12) (neI c13))]; try rfl
 ·have q:=of_decide_eq_false c11
  have w:opI .sub .i64 (pr.l.length:Int) 1=_:=hla
  rw[w] at q
  have q3:=of_decide_eq_false c2
  omega
theorem vO {sp:Spec} {key:Nat} (hF:sp.F key=dT) (hP:sp.pre key=cW):SmOk Try.prog sp (jC key):=
 aS (s:=jC key) hF hP (by kernel_rfl) dH (smc (aaQ rfl) (smc (vJ rfl) sm0)) Try.func18 fn0 vq (.inr (.inl ⟨(fun xs h L hL=>by unfold cW at h; split at h<;>first | exact h.elim | (simp at hL; subst hL; exact h)),rfl⟩)) (fun x0 gx0 x1 gx1 hp ρ g=>ve ⟨x0,x1⟩ ⟨gx0,gx1⟩ hp ρ g)
end Go.Proofs.Ytghiofgomcihcaa
