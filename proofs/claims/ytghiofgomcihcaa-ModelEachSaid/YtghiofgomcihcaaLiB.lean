import Derived.Test.YtghiofgomcihcaaLiA
import Derived.Test.YtghiofgomcihcaaProg
import Derived.Laws.Externs
set_option linter.unusedVariables false
set_option linter.unusedSimpArgs false
namespace Go.Proofs.Ytghiofgomcihcaa
open Go.RowKit Go.ChangeShapes Go.WideShapes
theorem Ins.eta (a:Ins):(⟨a.k,a.op,a.w,a.sz,a.br,a.d,a.s,a.off,a.imm⟩:Ins)=a:=rfl
def Ins.ok (a:Ins):Prop:=inK .i8 a.k=true∧inK .i8 a.op=true∧inK .i8 a.w=true∧inK .i8 a.sz=true∧inK .i8 a.d=true∧inK .i8 a.s=true∧inK .i64 a.off=true∧inK .i64 a.imm=true
def kIns:List CK:=[.int .i8,.int .i8,.int .i8,.int .i8,.bool,.int .i8,.int .i8,.int .i64,.int .i64]
theorem Prog.eta (a:Prog):(⟨a.ctx,a.l⟩:Prog)=a:=rfl
def Prog.ok (a:Prog):Prop:=inK .i64 a.ctx=true∧RowsIn [some .i8,some .i8,some .i8,some .i8,none,some .i8,some .i8,some .i64,some .i64] a.l
def kD:List CK:=[.int .i64,.sl [some .i8,some .i8,some .i8,some .i8,none,some .i8,some .i8,some .i64,some .i64] 44]
def iF:List C:=[.int .i8 (.lit 0),.int .i8 (.lit 0),.int .i8 (.lit 0),.int .i8 (.lit 0),.bool (.tt false),.int .i8 (.lit 0),.int .i8 (.lit 0),.int .i64 (.lit 0),.int .i64 (.lit 0)]
theorem ek:Try.prog.eqGuardType Try.prog.depth 44=false:=by kernel_rfl
theorem pZ:Try.prog.cellsOf 44=9:=by kernel_rfl
theorem qa:Try.prog.cellsOf 29=1:=by kernel_rfl
theorem tD:Try.prog.cellsOf 4=1:=by kernel_rfl
theorem tE:Try.prog.cellsOf 3=1:=by kernel_rfl
set_option maxRecDepth 100000 in
theorem acw (vs:List Value) (hv:aD vs iF):Try.prog.keyLits 6 44 vs=some (bD vs):=by
 obtain⟨x0,_,rfl,g0,hv⟩:=aq hv
 obtain⟨x1,_,rfl,g1,hv⟩:=aq hv
 obtain⟨x2,_,rfl,g2,hv⟩:=aq hv
 obtain⟨x3,_,rfl,g3,hv⟩:=aq hv
 obtain⟨x4,_,rfl,hv⟩:=bB hv
 obtain⟨x5,_,rfl,g5,hv⟩:=aq hv
 obtain⟨x6,_,rfl,g6,hv⟩:=aq hv
 obtain⟨x7,_,rfl,g7,hv⟩:=aq hv
 obtain⟨x8,_,rfl,g8,hv⟩:=aq hv
 obtain rfl:=bE hv
 simp[Program.keyLits,Try.underlying44,Try.underlying29,Try.underlying4,Try.underlying3,pZ,qa,tD,tE,acB,bD,g0,g1,g2,g3,g5,g6,g7,g8]
theorem acD (vs:List Value) (hv:aD vs iF):(Value.agg vs.toArray).formed Try.prog 44=true:=by
 obtain⟨x0,_,rfl,g0,hv⟩:=aq hv
 obtain⟨x1,_,rfl,g1,hv⟩:=aq hv
 obtain⟨x2,_,rfl,g2,hv⟩:=aq hv
 obtain⟨x3,_,rfl,g3,hv⟩:=aq hv
 obtain⟨x4,_,rfl,hv⟩:=bB hv
 obtain⟨x5,_,rfl,g5,hv⟩:=aq hv
 obtain⟨x6,_,rfl,g6,hv⟩:=aq hv
 obtain⟨x7,_,rfl,g7,hv⟩:=aq hv
 obtain⟨x8,_,rfl,g8,hv⟩:=aq hv
 obtain rfl:=bE hv
 kernel_rfl
theorem iA (vs us:List Value) (hv:aD vs iF) (hu:aD us iF) (w:World):(Op.equal 44 (.agg vs.toArray) (.agg us.toArray)).run Try.prog w=.ok (eqVs vs us) w:=
 lw (by kernel_rfl) acD 6 acw vs us hv hu w
def tys_LiB:List (Nat×TI):=[(3,⟨false,1,[.int .i64 (.lit 0)],[],none,some .i64,false,false,none,8,false,none,false,0⟩),
 (4,⟨false,1,[.bool (.tt false)],[],none,none,false,true,none,1,false,none,false,0⟩),
 (29,⟨false,1,[.int .i8 (.lit 0)],[],none,some .i8,false,false,none,1,false,none,false,0⟩),
 (44,⟨true,9,[.int .i8 (.lit 0),.int .i8 (.lit 0),.int .i8 (.lit 0),.int .i8 (.lit 0),.bool (.tt false),.int .i8 (.lit 0),.int .i8 (.lit 0),.int .i64 (.lit 0),.int .i64 (.lit 0)],[(0,29),(1,29),(2,29),(3,29),(4,4),(5,29),(6,29),(7,3),(8,3)],none,none,true,false,none,24,false,none,false,0⟩)]
set_option maxRecDepth 100000 in
theorem ut:(tys_LiB.all fun p=>ckTI Try.prog p.1 p.2)=true:=by kernel_rfl
theorem nj:(tys_LiB.all fun p=>!p.2.eqok||((Nat.beq p.1 44&&bv p.2.zero iF)))=true:=by kernel_rfl
theorem ug:(tys_LiB.all fun p=>!p.2.keyok)=true:=by kernel_rfl
theorem cp:∀t i,(t,i)∈tys_LiB→TIok Try.prog t i:=by
 intro t i h
 refine cQ (eY (f:=ckTI Try.prog) ut h) (fun he=> ?_) (fun he=> ?_) (fun he=> ?_)
 ·have h1:=List.all_eq_true.1 nj (t,i) h
  simp only[he,Bool.not_true,Bool.false_or,Bool.or_eq_true,Bool.and_eq_true] at h1
  have hs:=h1.2
  obtain rfl:=Nat.eq_of_beq_eq_true h1.1
  exact fun vs us hv hu=>iA vs us (aB hs hv) (aB hs hu)
 ·have h1:=List.all_eq_true.1 nj (t,i) h
  simp only[he,Bool.not_true,Bool.false_or,Bool.or_eq_true,Bool.and_eq_true] at h1
  have hs:=h1.2
  obtain rfl:=Nat.eq_of_beq_eq_true h1.1
  exact ek
 ·have h1:=List.all_eq_true.1 ug (t,i) h
  simp[he] at h1
def jD (key:Nat):Sm:=⟨54,key,[.one (.int .i64),.one (.int .i64),.one (.int .i64)],[.one .bool],false⟩
def js (n:Int) (a:Int) (b:Int):List Dt:=[.z (b2i ((decide (a≤n)&&decide (n≤b))))]
def cY:List Dt→List Dt
 | [.z x0,.z x1,.z x2]=>js x0 x1 x2
 | _=>[]
def sT_iwi:Tr:=
(.br (.lt (.var 0) (.var 1))
(.leaf (.consb (.tt false) .nil))
(.leaf (.consb (.not (.lt (.var 2) (.var 0))) .nil)))
def zu:Spec:=⟨fun k=>match k with | _=>fun _=>[],fun k=>match k with | _=>fun _=>True⟩
set_option maxRecDepth 100000 in
theorem aca:aM tys_LiB [] [] [] [] 200 Try.f54 [.one (.int .i64),.one (.int .i64),.one (.int .i64)] [.one .bool] false [.int .i64,.int .i64,.int .i64] sT_iwi:=⟨by kernel_rfl,by kernel_rfl,by kernel_rfl⟩
set_option maxRecDepth 100000 in
set_option maxHeartbeats 8000000 in
theorem ab5 (n:Int) (hn:inK .i64 n=true) (a:Int) (ha:inK .i64 a=true) (b:Int) (hb:inK .i64 b=true) (ρ:Env) (g:ah ρ 0 [.int .i64,.int .i64,.int .i64]=[.z n,.z a,.z b]):sT_iwi.asks zu (fun ρ e=>e.D ρ=cY [.z n,.z a,.z b]) ρ fun _ _=>False:=by
 simp only[ah,varD,List.cons.injEq,Dt.z.injEq,Dt.l.injEq,b2i_eq_iff,Nat.reduceAdd,and_true] at g
 simp only[sT_iwi,zu,cY,js,Tr.asks,am,okDs,okD,eqs,E.I,E.B,E.L,E.R,E.D,E.vs,dI,dB,dL,varD,ah,List.getElem?_cons_zero,List.getElem?_cons_succ,List.cons_append,List.nil_append,Nat.zero_add,Nat.add_zero,Nat.reduceAdd,and_true,true_and,b2i_one,-eq_self,Ins.eta,Prog.eta,aa,g]
 refine⟨fun c0=> ?_,fun c0=> ?_⟩
 ·(refine zb ?_; rw[Bool.eq_iff_iff]; simp at *; omega)
 ·(refine zb ?_; rw[Bool.eq_iff_iff]; simp at *; omega)
theorem nQ {sp:Spec} {key:Nat} (hF:sp.F key=cY) (hP:sp.pre key=fun _=>True:=by rfl):SmOk Try.prog sp (jD key):=
 aS (s:=jD key) hF hP (by kernel_rfl) cp (sm0) Try.func54 fn0 aca (.inl rfl) (fun x0 gx0 x1 gx1 x2 gx2 hp ρ g=>ab5 x0 gx0 x1 gx1 x2 gx2 ρ g)
def qL (key:Nat):Sm:=⟨71,key,[.one (.int .i8),.one (.int .i8),.one (.int .i8)],[.one .bool],false⟩
def qC (n:Int) (a:Int) (b:Int):List Dt:=[.z (b2i ((decide (a≤n)&&decide (n≤b))))]
def jK:List Dt→List Dt
 | [.z x0,.z x1,.z x2]=>qC x0 x1 x2
 | _=>[]
def sT_iwb:Tr:=
(.br (.lt (.var 0) (.var 1))
(.leaf (.consb (.tt false) .nil))
(.leaf (.consb (.not (.lt (.var 2) (.var 0))) .nil)))
def zv:Spec:=⟨fun k=>match k with | _=>fun _=>[],fun k=>match k with | _=>fun _=>True⟩
set_option maxRecDepth 100000 in
theorem acb:aM tys_LiB [] [] [] [] 200 Try.f71 [.one (.int .i8),.one (.int .i8),.one (.int .i8)] [.one .bool] false [.int .i8,.int .i8,.int .i8] sT_iwb:=⟨by kernel_rfl,by kernel_rfl,by kernel_rfl⟩
set_option maxRecDepth 100000 in
set_option maxHeartbeats 8000000 in
theorem ab6 (n:Int) (hn:inK .i8 n=true) (a:Int) (ha:inK .i8 a=true) (b:Int) (hb:inK .i8 b=true) (ρ:Env) (g:ah ρ 0 [.int .i8,.int .i8,.int .i8]=[.z n,.z a,.z b]):sT_iwb.asks zv (fun ρ e=>e.D ρ=jK [.z n,.z a,.z b]) ρ fun _ _=>False:=by
 simp only[ah,varD,List.cons.injEq,Dt.z.injEq,Dt.l.injEq,b2i_eq_iff,Nat.reduceAdd,and_true] at g
 simp only[sT_iwb,zv,jK,qC,Tr.asks,am,okDs,okD,eqs,E.I,E.B,E.L,E.R,E.D,E.vs,dI,dB,dL,varD,ah,List.getElem?_cons_zero,List.getElem?_cons_succ,List.cons_append,List.nil_append,Nat.zero_add,Nat.add_zero,Nat.reduceAdd,and_true,true_and,b2i_one,-eq_self,Ins.eta,Prog.eta,aa,g]
 refine⟨fun c0=> ?_,fun c0=> ?_⟩
 ·(refine zb ?_; rw[Bool.eq_iff_iff]; simp at *; omega)
 ·(refine zb ?_; rw[Bool.eq_iff_iff]; simp at *; omega)
theorem zy {sp:Spec} {key:Nat} (hF:sp.F key=jK) (hP:sp.pre key=fun _=>True:=by rfl):SmOk Try.prog sp (qL key):=
 aS (s:=qL key) hF hP (by kernel_rfl) cp (sm0) Try.func71 fn0 acb (.inl rfl) (fun x0 gx0 x1 gx1 x2 gx2 hp ρ g=>ab6 x0 gx0 x1 gx1 x2 gx2 ρ g)
def vF (key:Nat):Sm:=⟨84,key,[.one (.int .i8)],[.one .bool],false⟩
def vh (n:Int):List Dt:=[.z (b2i (aJ n))]
def nT:List Dt→List Dt
 | [.z x0]=>vh x0
 | _=>[]
def sT_isz:Tr:=
(.br (.eq (.var 0) (.lit 1))
(.leaf (.consb (.tt true) .nil))
(.br (.eq (.var 0) (.lit 2))
(.leaf (.consb (.tt true) .nil))
(.br (.eq (.var 0) (.lit 4))
(.leaf (.consb (.tt true) .nil))
(.leaf (.consb (.eq (.var 0) (.lit 8)) .nil)))))
def zw:Spec:=⟨fun k=>match k with | _=>fun _=>[],fun k=>match k with | _=>fun _=>True⟩
set_option maxRecDepth 100000 in
theorem acd:aM tys_LiB [] [] [] [] 200 Try.f84 [.one (.int .i8)] [.one .bool] false [.int .i8] sT_isz:=⟨by kernel_rfl,by kernel_rfl,by kernel_rfl⟩
set_option maxRecDepth 100000 in
set_option maxHeartbeats 8000000 in
theorem ab7 (n:Int) (hn:inK .i8 n=true) (ρ:Env) (g:ah ρ 0 [.int .i8]=[.z n]):sT_isz.asks zw (fun ρ e=>e.D ρ=nT [.z n]) ρ fun _ _=>False:=by
 simp only[ah,varD,List.cons.injEq,Dt.z.injEq,Dt.l.injEq,b2i_eq_iff,Nat.reduceAdd,and_true] at g
 simp only[sT_isz,zw,nT,vh,Tr.asks,am,okDs,okD,eqs,E.I,E.B,E.L,E.R,E.D,E.vs,dI,dB,dL,varD,ah,List.getElem?_cons_zero,List.getElem?_cons_succ,List.cons_append,List.nil_append,Nat.zero_add,Nat.add_zero,Nat.reduceAdd,and_true,true_and,b2i_one,-eq_self,Ins.eta,Prog.eta,aa,g]
 refine⟨fun c0=> ?_,fun c0=> ?_⟩
 ·(refine zb ?_; unfold aJ; rw[Bool.eq_iff_iff]; simp at *; omega)
 refine⟨fun c1=> ?_,fun c1=> ?_⟩
 ·(refine zb ?_; unfold aJ; rw[Bool.eq_iff_iff]; simp at *; omega)
 refine⟨fun c2=> ?_,fun c2=> ?_⟩
 ·(refine zb ?_; unfold aJ; rw[Bool.eq_iff_iff]; simp at *; omega)
 ·(refine zb ?_; unfold aJ; rw[Bool.eq_iff_iff]; simp at *; omega)
theorem acf {sp:Spec} {key:Nat} (hF:sp.F key=nT) (hP:sp.pre key=fun _=>True:=by rfl):SmOk Try.prog sp (vF key):=
 aS (s:=vF key) hF hP (by kernel_rfl) cp (sm0) Try.func84 fn0 acd (.inl rfl) (fun x0 gx0 hp ρ g=>ab7 x0 gx0 ρ g)
def lX (key:Nat):Sm:=⟨72,key,[.agg kIns],[.agg kIns,.one .bool],true⟩
def lT (x:Ins):List Dt:=[.z (((aP x).1).k),.z (((aP x).1).op),.z (((aP x).1).w),.z (((aP x).1).sz),.z (b2i (((aP x).1).br)),.z (((aP x).1).d),.z (((aP x).1).s),.z (((aP x).1).off),.z (((aP x).1).imm),.z (b2i ((aP x).2))]
def fR:List Dt→List Dt
 | [.z x0,.z x1,.z x2,.z x3,.z x4,.z x5,.z x6,.z x7,.z x8]=>lT ⟨x0,x1,x2,x3,(x4==1),x5,x6,x7,x8⟩
 | _=>[]
set_option maxRecDepth 100000 in
def sT_ibare:Tr:=
(.br (.eq (.var 0) (.lit 0))
(.call 1 [.bool] (.cons (.var 1) (.cons (.lit 0) (.cons (.lit 12) .nil))) 9
(.br (.bvar 9)
(.br (.eq (.var 2) (.lit 32))
(.br (.lt (.var 5) (.lit 10))
(.br (.eq (.var 1) (.lit 8))
(.br (.bvar 4)
(.leaf (.cons (.var 0) (.cons (.lit 0) (.cons (.lit 0) (.cons (.var 3) (.consb (.tt false) (.cons (.lit 0) (.cons (.lit 0) (.vs 7 2 (.consb (.tt false) .nil))))))))))
(.leaf (.cons (.var 0) (.cons (.lit 0) (.cons (.lit 0) (.cons (.var 3) (.consb (.tt false) (.cons (.lit 0) (.vs 6 2 (.cons (.lit 0) (.consb (.eq (.var 8) (.lit 0)) .nil)))))))))))
(.br (.bvar 4)
(.leaf (.cons (.var 0) (.cons (.lit 0) (.cons (.lit 0) (.cons (.var 3) (.consb (.tt false) (.cons (.lit 0) (.cons (.lit 0) (.vs 7 2 (.consb (.tt true) .nil))))))))))
(.leaf (.cons (.var 0) (.cons (.lit 0) (.cons (.lit 0) (.cons (.var 3) (.consb (.tt false) (.cons (.lit 0) (.vs 6 2 (.cons (.lit 0) (.consb (.tt true) .nil))))))))))))
(.br (.bvar 4)
(.leaf (.cons (.var 0) (.cons (.lit 0) (.cons (.lit 0) (.cons (.var 3) (.consb (.tt false) (.cons (.lit 0) (.cons (.lit 0) (.vs 7 2 (.consb (.tt false) .nil))))))))))
(.leaf (.cons (.var 0) (.cons (.lit 0) (.cons (.lit 0) (.cons (.var 3) (.consb (.tt false) (.cons (.lit 0) (.vs 6 2 (.cons (.lit 0) (.consb (.tt false) .nil))))))))))))
(.br (.eq (.var 2) (.lit 64))
(.br (.lt (.var 5) (.lit 10))
(.br (.eq (.var 1) (.lit 8))
(.br (.bvar 4)
(.leaf (.cons (.var 0) (.cons (.lit 0) (.cons (.lit 0) (.cons (.var 3) (.consb (.tt false) (.cons (.lit 0) (.cons (.lit 0) (.vs 7 2 (.consb (.tt false) .nil))))))))))
(.leaf (.cons (.var 0) (.cons (.lit 0) (.cons (.lit 0) (.cons (.var 3) (.consb (.tt false) (.cons (.lit 0) (.vs 6 2 (.cons (.lit 0) (.consb (.eq (.var 8) (.lit 0)) .nil)))))))))))
(.br (.bvar 4)
(.leaf (.cons (.var 0) (.cons (.lit 0) (.cons (.lit 0) (.cons (.var 3) (.consb (.tt false) (.cons (.lit 0) (.cons (.lit 0) (.vs 7 2 (.consb (.tt true) .nil))))))))))
(.leaf (.cons (.var 0) (.cons (.lit 0) (.cons (.lit 0) (.cons (.var 3) (.consb (.tt false) (.cons (.lit 0) (.vs 6 2 (.cons (.lit 0) (.consb (.tt true) .nil))))))))))))
(.br (.bvar 4)
(.leaf (.cons (.var 0) (.cons (.lit 0) (.cons (.lit 0) (.cons (.var 3) (.consb (.tt false) (.cons (.lit 0) (.cons (.lit 0) (.vs 7 2 (.consb (.tt false) .nil))))))))))
(.leaf (.cons (.var 0) (.cons (.lit 0) (.cons (.lit 0) (.cons (.var 3) (.consb (.tt false) (.cons (.lit 0) (.vs 6 2 (.cons (.lit 0) (.consb (.tt false) .nil))))))))))))
(.br (.bvar 4)
(.leaf (.cons (.var 0) (.cons (.lit 0) (.cons (.lit 0) (.cons (.var 3) (.consb (.tt false) (.cons (.lit 0) (.cons (.lit 0) (.vs 7 2 (.consb (.tt false) .nil))))))))))
(.leaf (.cons (.var 0) (.cons (.lit 0) (.cons (.lit 0) (.cons (.var 3) (.consb (.tt false) (.cons (.lit 0) (.vs 6 2 (.cons (.lit 0) (.consb (.tt false) .nil)))))))))))))
(.br (.bvar 4)
(.leaf (.cons (.var 0) (.cons (.lit 0) (.cons (.lit 0) (.cons (.var 3) (.consb (.tt false) (.cons (.lit 0) (.cons (.lit 0) (.vs 7 2 (.consb (.tt false) .nil))))))))))
(.leaf (.cons (.var 0) (.cons (.lit 0) (.cons (.lit 0) (.cons (.var 3) (.consb (.tt false) (.cons (.lit 0) (.vs 6 2 (.cons (.lit 0) (.consb (.tt false) .nil)))))))))))))
(.br (.eq (.var 0) (.lit 1))
(.call 2 [.bool] (.cons (.var 3) .nil) 9
(.br (.bvar 9)
(.leaf (.vs 0 3 (.cons (.lit 0) (.consb (.bvar 4) (.cons (.lit 0) (.cons (.lit 0) (.cons (.lit 0) (.cons (.var 8) (.consb (.lt (.var 5) (.lit 10)) .nil)))))))))
(.leaf (.vs 0 3 (.cons (.lit 0) (.consb (.bvar 4) (.cons (.lit 0) (.cons (.lit 0) (.cons (.lit 0) (.cons (.var 8) (.consb (.tt false) .nil)))))))))))
(.br (.eq (.var 0) (.lit 2))
(.call 2 [.bool] (.cons (.var 3) .nil) 9
(.leaf (.vs 0 3 (.cons (.lit 0) (.consb (.bvar 4) (.cons (.lit 0) (.cons (.lit 0) (.cons (.lit 0) (.cons (.var 8) (.consb (.bvar 9) .nil))))))))))
(.br (.eq (.var 0) (.lit 3))
(.call 1 [.bool] (.cons (.var 1) (.cons (.lit 0) (.cons (.lit 10) .nil))) 9
(.br (.bvar 4)
(.leaf (.cons (.var 0) (.cons (.lit 0) (.vs 2 2 (.consb (.tt false) (.cons (.lit 0) (.cons (.lit 0) (.cons (.lit 0) (.cons (.var 8) (.consb (.bvar 9) .nil))))))))))
(.leaf (.cons (.var 0) (.cons (.lit 0) (.vs 2 2 (.consb (.tt false) (.cons (.lit 0) (.cons (.var 6) (.cons (.lit 0) (.cons (.lit 0) (.consb (.bvar 9) .nil))))))))))))
(.br (.eq (.var 0) (.lit 4))
(.leaf (.vs 0 4 (.consb (.bvar 4) (.vs 5 2 (.cons (.lit 0) (.cons (.var 8) (.consb (.tt true) .nil)))))))
(.br (.eq (.var 0) (.lit 5))
(.call 0 [.bool] (.cons (.var 8) (.cons (.lit 0) (.cons (.lit 15) .nil))) 9
(.leaf (.vs 0 4 (.consb (.bvar 4) (.vs 5 3 (.cons (.lit 0) (.consb (.bvar 9) .nil)))))))
(.br (.eq (.var 0) (.lit 6))
(.leaf (.vs 0 4 (.consb (.bvar 4) (.vs 5 4 (.consb (.tt true) .nil)))))
(.leaf (.vs 0 4 (.consb (.bvar 4) (.vs 5 4 (.consb (.tt false) .nil))))))))))))
def qI:Spec:=⟨fun k=>match k with | 0=>cY | 1=>jK | 2=>nT | _=>fun _=>[],fun k=>match k with | _=>fun _=>True⟩
set_option maxRecDepth 100000 in
theorem yo:aM tys_LiB [jD 0,qL 1,vF 2] [(83,Try.f83,[],[])] [] [] 200 Try.f72 [.agg kIns] [.agg kIns,.one .bool] true [.int .i8,.int .i8,.int .i8,.int .i8,.bool,.int .i8,.int .i8,.int .i64,.int .i64] sT_ibare:=⟨by kernel_rfl,by kernel_rfl,by kernel_rfl⟩
set_option maxRecDepth 100000 in
set_option maxHeartbeats 8000000 in
theorem yg (x:Ins) (hx:Ins.ok x) (ρ:Env) (g:ah ρ 0 [.int .i8,.int .i8,.int .i8,.int .i8,.bool,.int .i8,.int .i8,.int .i64,.int .i64]=[.z x.k,.z x.op,.z x.w,.z x.sz,.z (b2i x.br),.z x.d,.z x.s,.z x.off,.z x.imm]):sT_ibare.asks qI (fun ρ e=>e.D ρ=fR [.z x.k,.z x.op,.z x.w,.z x.sz,.z (b2i x.br),.z x.d,.z x.s,.z x.off,.z x.imm]) ρ fun _ _=>False:=by
 simp only[ah,varD,List.cons.injEq,Dt.z.injEq,Dt.l.injEq,b2i_eq_iff,Nat.reduceAdd,and_true] at g
 simp only[sT_ibare,qI,cY,jK,nT,js,qC,vh,fR,lT,Tr.asks,am,okDs,okD,eqs,E.I,E.B,E.L,E.R,E.D,E.vs,dI,dB,dL,varD,ah,List.getElem?_cons_zero,List.getElem?_cons_succ,List.cons_append,List.nil_append,Nat.zero_add,Nat.add_zero,Nat.reduceAdd,and_true,true_and,b2i_one,-eq_self,Ins.eta,Prog.eta,aa,g]
 refine⟨fun c0=> ?_,fun c0=> ?_⟩
 intro e; (try simp only[e,Ins.eta,Prog.eta,aa,-eq_self]); clear e
 refine⟨fun c1=> ?_,fun c1=> ?_⟩
 refine⟨fun c2=> ?_,fun c2=> ?_⟩
 refine⟨fun c3=> ?_,fun c3=> ?_⟩
 refine⟨fun c4=> ?_,fun c4=> ?_⟩
 refine⟨fun c5=> ?_,fun c5=> ?_⟩
 ·(unfold aP immz; simp_all<;>omega)
 ·(unfold aP immz; simp_all<;>omega)
 refine⟨fun c6=> ?_,fun c6=> ?_⟩
 ·(unfold aP immz; simp_all<;>omega)
 ·(unfold aP immz; simp_all<;>omega)
 refine⟨fun c7=> ?_,fun c7=> ?_⟩
 ·(unfold aP immz; simp_all<;>omega)
 ·(unfold aP immz; simp_all<;>omega)
 refine⟨fun c8=> ?_,fun c8=> ?_⟩
 refine⟨fun c9=> ?_,fun c9=> ?_⟩
 refine⟨fun c10=> ?_,fun c10=> ?_⟩
 refine⟨fun c11=> ?_,fun c11=> ?_⟩
 ·(unfold aP immz; simp_all<;>omega)
 ·(unfold aP immz; simp_all<;>omega)
 refine⟨fun c12=> ?_,fun c12=> ?_⟩
 ·(unfold aP immz; simp_all<;>omega)
 ·(unfold aP immz; simp_all<;>omega)
 refine⟨fun c13=> ?_,fun c13=> ?_⟩
 ·(unfold aP immz; simp_all<;>omega)
 ·(unfold aP immz; simp_all<;>omega)
 refine⟨fun c14=> ?_,fun c14=> ?_⟩
 ·(unfold aP immz; simp_all<;>omega)
 ·(unfold aP immz; simp_all<;>omega)
 refine⟨fun c15=> ?_,fun c15=> ?_⟩
 ·(unfold aP immz; simp_all<;>omega)
 ·(unfold aP immz; simp_all<;>omega)
 refine⟨fun c16=> ?_,fun c16=> ?_⟩
 intro e; (try simp only[e,Ins.eta,Prog.eta,aa,-eq_self]); clear e
 refine⟨fun c17=> ?_,fun c17=> ?_⟩
 ·(unfold aP immz; simp_all<;>omega)
 ·(unfold aP immz; simp_all<;>omega)
 refine⟨fun c18=> ?_,fun c18=> ?_⟩
 intro e; (try simp only[e,Ins.eta,Prog.eta,aa,-eq_self]); clear e
 ·(unfold aP immz; simp_all<;>omega)
 refine⟨fun c19=> ?_,fun c19=> ?_⟩
 intro e; (try simp only[e,Ins.eta,Prog.eta,aa,-eq_self]); clear e
 refine⟨fun c20=> ?_,fun c20=> ?_⟩
 ·(unfold aP immz; simp_all<;>omega)
 ·(unfold aP immz; simp_all<;>omega)
 refine⟨fun c21=> ?_,fun c21=> ?_⟩
 ·(unfold aP immz; simp_all<;>omega)
 refine⟨fun c22=> ?_,fun c22=> ?_⟩
 intro e; (try simp only[e,Ins.eta,Prog.eta,aa,-eq_self]); clear e
 ·(unfold aP immz; simp_all<;>omega)
 refine⟨fun c23=> ?_,fun c23=> ?_⟩
 ·(unfold aP immz; simp_all<;>omega)
 ·(unfold aP immz; simp_all<;>omega)
theorem yr {sp:Spec} {key:Nat} (hF:sp.F key=fR) (hP:sp.pre key=fun _=>True:=by rfl):SmOk Try.prog sp (lX key):=
 aS (s:=lX key) hF hP (by kernel_rfl) cp (smc (nQ rfl) (smc (zy rfl) (smc (acf rfl) sm0))) Try.func72 (fnc Try.func83 fn0) yo (.inl rfl) (fun x0 gx0 x1 gx1 x2 gx2 x3 gx3 x4 x5 gx5 x6 gx6 x7 gx7 x8 gx8 hp ρ g=>yg ⟨x0,x1,x2,x3,x4,x5,x6,x7,x8⟩ ⟨gx0,gx1,gx2,gx3,gx5,gx6,gx7,gx8⟩ ρ g)
def pq (key:Nat):Sm:=⟨55,key,[.agg kIns],[.one .bool],false⟩
def pj (x:Ins):List Dt:=[.z (b2i (imay x))]
def jL:List Dt→List Dt
 | [.z x0,.z x1,.z x2,.z x3,.z x4,.z x5,.z x6,.z x7,.z x8]=>pj ⟨x0,x1,x2,x3,(x4==1),x5,x6,x7,x8⟩
 | _=>[]
def sT_imay:Tr:=
(.call 1 [.bool] (.cons (.var 5) (.cons (.lit 0) (.cons (.lit 10) .nil))) 9
(.br (.bvar 9)
(.call 1 [.bool] (.cons (.var 6) (.cons (.lit 0) (.cons (.lit 10) .nil))) 10
(.br (.bvar 10)
(.call 0 [.bool] (.cons (.var 7) (.cons (.lit (-32768)) (.cons (.lit 32767) .nil))) 11
(.br (.bvar 11)
(.call 0 [.bool] (.cons (.var 8) (.cons (.lit (-2147483648)) (.cons (.lit 2147483647) .nil))) 12
(.br (.bvar 12)
(.call 2 (kIns++[.bool]) (.vs 0 4 (.consb (.bvar 4) (.vs 5 4 .nil))) 13
(.br (.bvar 22)
(.leaf (.consb (.and (.eq (.var 13) (.var 0)) (.and (.eq (.var 14) (.lit 0)) (.and (.eq (.var 15) (.lit 0)) (.and (.eq (.var 16) (.lit 0)) (.and (.not (.bvar 17)) (.and (.eq (.var 18) (.lit 0)) (.and (.eq (.var 19) (.lit 0)) (.and (.eq (.var 20) (.lit 0)) (.and (.eq (.var 21) (.lit 0)) (.tt true)))))))))) .nil))
(.leaf (.consb (.tt false) .nil))))
(.leaf (.consb (.tt false) .nil))))
(.leaf (.consb (.tt false) .nil))))
(.leaf (.consb (.tt false) .nil))))
(.leaf (.consb (.tt false) .nil))))
def vD:Spec:=⟨fun k=>match k with | 0=>cY | 1=>jK | 2=>fR | _=>fun _=>[],fun k=>match k with | _=>fun _=>True⟩
set_option maxRecDepth 100000 in
theorem aaM:aM tys_LiB [jD 0,qL 1,lX 2] [] [] [] 200 Try.f55 [.agg kIns] [.one .bool] false [.int .i8,.int .i8,.int .i8,.int .i8,.bool,.int .i8,.int .i8,.int .i64,.int .i64] sT_imay:=⟨by kernel_rfl,by kernel_rfl,by kernel_rfl⟩
set_option maxRecDepth 100000 in
set_option maxHeartbeats 8000000 in
theorem aaB (x:Ins) (hx:Ins.ok x) (ρ:Env) (g:ah ρ 0 [.int .i8,.int .i8,.int .i8,.int .i8,.bool,.int .i8,.int .i8,.int .i64,.int .i64]=[.z x.k,.z x.op,.z x.w,.z x.sz,.z (b2i x.br),.z x.d,.z x.s,.z x.off,.z x.imm]):sT_imay.asks vD (fun ρ e=>e.D ρ=jL [.z x.k,.z x.op,.z x.w,.z x.sz,.z (b2i x.br),.z x.d,.z x.s,.z x.off,.z x.imm]) ρ fun _ _=>False:=by
 simp only[ah,varD,List.cons.injEq,Dt.z.injEq,Dt.l.injEq,b2i_eq_iff,Nat.reduceAdd,and_true] at g
 simp only[sT_imay,vD,kIns,cY,jK,fR,js,qC,lT,jL,pj,Tr.asks,am,okDs,okD,eqs,E.I,E.B,E.L,E.R,E.D,E.vs,dI,dB,dL,varD,ah,List.getElem?_cons_zero,List.getElem?_cons_succ,List.cons_append,List.nil_append,Nat.zero_add,Nat.add_zero,Nat.reduceAdd,and_true,true_and,b2i_one,-eq_self,Ins.eta,Prog.eta,aa,g]
 intro e; (try simp only[e,Ins.eta,Prog.eta,aa,-eq_self]); clear e
 refine⟨fun c0=> ?_,fun c0=> ?_⟩
 intro e; (try simp only[e,Ins.eta,Prog.eta,aa,-eq_self]); clear e
 refine⟨fun c1=> ?_,fun c1=> ?_⟩
 intro e; (try simp only[e,Ins.eta,Prog.eta,aa,-eq_self]); clear e
 refine⟨fun c2=> ?_,fun c2=> ?_⟩
 intro e; (try simp only[e,Ins.eta,Prog.eta,aa,-eq_self]); clear e
 refine⟨fun c3=> ?_,fun c3=> ?_⟩
 intro e; (try simp only[e,Ins.eta,Prog.eta,aa,-eq_self]); clear e
 refine⟨fun c4=> ?_,fun c4=> ?_⟩
 ·(unfold imay ce cz; simp_all<;>omega)
 ·(unfold imay ce cz; simp_all<;>omega)
 ·(unfold imay ce cz; simp_all<;>omega)
 ·(unfold imay ce cz; simp_all<;>omega)
 ·(unfold imay ce cz; simp_all<;>omega)
 ·(unfold imay ce cz; simp_all<;>omega)
theorem aaS {sp:Spec} {key:Nat} (hF:sp.F key=jL) (hP:sp.pre key=fun _=>True:=by rfl):SmOk Try.prog sp (pq key):=
 aS (s:=pq key) hF hP (by kernel_rfl) cp (smc (nQ rfl) (smc (zy rfl) (smc (yr rfl) sm0))) Try.func55 fn0 aaM (.inl rfl) (fun x0 gx0 x1 gx1 x2 gx2 x3 gx3 x4 x5 gx5 x6 gx6 x7 gx7 x8 gx8 hp ρ g=>aaB ⟨x0,x1,x2,x3,x4,x5,x6,x7,x8⟩ ⟨gx0,gx1,gx2,gx3,gx5,gx6,gx7,gx8⟩ ρ g)
def jE (key:Nat):Sm:=⟨56,key,[.one (.int .i64),.agg kIns],[.one (.int .i64),.one .bool],true⟩
def jt (i:Int) (x:Ins):List Dt:=[.z ((itgt i x).1),.z (b2i ((itgt i x).2))]
def dl:List Dt→List Dt
 | [.z x0,.z x1,.z x2,.z x3,.z x4,.z x5,.z x6,.z x7,.z x8,.z x9]=>jt x0 ⟨x1,x2,x3,x4,(x5==1),x6,x7,x8,x9⟩
 | _=>[]
def sT_itgt:Tr:=
(.br (.eq (.var 1) (.lit 3))
(.call 0 [.bool] (.cons (.var 0) (.cons (.lit (-1099511627776)) (.cons (.lit 1099511627776) .nil))) 10
(.br (.bvar 10)
(.call 0 [.bool] (.cons (.var 8) (.cons (.lit (-1099511627776)) (.cons (.lit 1099511627776) .nil))) 11
(.br (.bvar 11)
(.leaf (.cons (.bin .add .i64 (.bin .add .i64 (.var 0) (.lit 1)) (.var 8)) (.consb (.tt true) .nil)))
(.leaf (.cons (.lit 0) (.consb (.tt false) .nil)))))
(.leaf (.cons (.lit 0) (.consb (.tt false) .nil)))))
(.br (.eq (.var 1) (.lit 4))
(.call 0 [.bool] (.cons (.var 0) (.cons (.lit (-1099511627776)) (.cons (.lit 1099511627776) .nil))) 10
(.br (.bvar 10)
(.call 0 [.bool] (.cons (.var 8) (.cons (.lit (-1099511627776)) (.cons (.lit 1099511627776) .nil))) 11
(.br (.bvar 11)
(.leaf (.cons (.bin .add .i64 (.bin .add .i64 (.var 0) (.lit 1)) (.var 8)) (.consb (.tt true) .nil)))
(.leaf (.cons (.lit 0) (.consb (.tt false) .nil)))))
(.leaf (.cons (.lit 0) (.consb (.tt false) .nil)))))
(.leaf (.cons (.lit 0) (.consb (.tt false) .nil)))))
def vC:Spec:=⟨fun k=>match k with | 0=>cY | _=>fun _=>[],fun k=>match k with | _=>fun _=>True⟩
set_option maxRecDepth 100000 in
theorem aaL:aM tys_LiB [jD 0] [] [] [] 200 Try.f56 [.one (.int .i64),.agg kIns] [.one (.int .i64),.one .bool] true [.int .i64,.int .i8,.int .i8,.int .i8,.int .i8,.bool,.int .i8,.int .i8,.int .i64,.int .i64] sT_itgt:=⟨by kernel_rfl,by kernel_rfl,by kernel_rfl⟩
set_option maxRecDepth 100000 in
set_option maxHeartbeats 8000000 in
theorem aaA (i:Int) (hi:inK .i64 i=true) (x:Ins) (hx:Ins.ok x) (ρ:Env) (g:ah ρ 0 [.int .i64,.int .i8,.int .i8,.int .i8,.int .i8,.bool,.int .i8,.int .i8,.int .i64,.int .i64]=[.z i,.z x.k,.z x.op,.z x.w,.z x.sz,.z (b2i x.br),.z x.d,.z x.s,.z x.off,.z x.imm]):sT_itgt.asks vC (fun ρ e=>e.D ρ=dl [.z i,.z x.k,.z x.op,.z x.w,.z x.sz,.z (b2i x.br),.z x.d,.z x.s,.z x.off,.z x.imm]) ρ fun _ _=>False:=by
 simp only[ah,varD,List.cons.injEq,Dt.z.injEq,Dt.l.injEq,b2i_eq_iff,Nat.reduceAdd,and_true] at g
 simp only[sT_itgt,vC,cY,js,dl,jt,Tr.asks,am,okDs,okD,eqs,E.I,E.B,E.L,E.R,E.D,E.vs,dI,dB,dL,varD,ah,List.getElem?_cons_zero,List.getElem?_cons_succ,List.cons_append,List.nil_append,Nat.zero_add,Nat.add_zero,Nat.reduceAdd,and_true,true_and,b2i_one,-eq_self,Ins.eta,Prog.eta,aa,g]
 refine⟨fun c0=> ?_,fun c0=> ?_⟩
 intro e; (try simp only[e,Ins.eta,Prog.eta,aa,-eq_self]); clear e
 refine⟨fun c1=> ?_,fun c1=> ?_⟩
 intro e; (try simp only[e,Ins.eta,Prog.eta,aa,-eq_self]); clear e
 refine⟨fun c2=> ?_,fun c2=> ?_⟩
 ·rw[kX (.inl (eqI c0)) c1 c2]; try rfl
 ·rw[kY c2]; try rfl
 ·rw[kZ c1]; try rfl
 refine⟨fun c3=> ?_,fun c3=> ?_⟩
 intro e; (try simp only[e,Ins.eta,Prog.eta,aa,-eq_self]); clear e
 refine⟨fun c4=> ?_,fun c4=> ?_⟩
 intro e; (try simp only[e,Ins.eta,Prog.eta,aa,-eq_self]); clear e
 refine⟨fun c5=> ?_,fun c5=> ?_⟩
 ·rw[kX (.inr (eqI c3)) c4 c5]; try rfl
 ·rw[kY c5]; try rfl
 ·rw[kZ c4]; try rfl
 ·rw[zL c0 c3]; try rfl
theorem pu {sp:Spec} {key:Nat} (hF:sp.F key=dl) (hP:sp.pre key=fun _=>True:=by rfl):SmOk Try.prog sp (jE key):=
 aS (s:=jE key) hF hP (by kernel_rfl) cp (smc (nQ rfl) sm0) Try.func56 fn0 aaL (.inl rfl) (fun x0 gx0 x1 gx1 x2 gx2 x3 gx3 x4 gx4 x5 x6 gx6 x7 gx7 x8 gx8 x9 gx9 hp ρ g=>aaA x0 gx0 ⟨x1,x2,x3,x4,x5,x6,x7,x8,x9⟩ ⟨gx1,gx2,gx3,gx4,gx6,gx7,gx8,gx9⟩ ρ g)
def fQ (key:Nat):Sm:=⟨80,key,[.one (.int .i64)],[.one (.int .i64)],false⟩
def fM (n:Int):List Dt:=[.z (bo n)]
def cg:List Dt→List Dt
 | [.z x0]=>fM x0
 | _=>[]
def sT_iargs:Tr:=
(.call 0 [.bool] (.cons (.var 0) (.cons (.lit 0) (.cons (.lit 15) .nil))) 1
(.br (.bvar 1)
(.leaf (.cons (.bin .rem .i64 (.var 0) (.lit 6)) .nil))
(.leaf (.cons (.lit 0) .nil))))
def qJ:Spec:=⟨fun k=>match k with | 0=>cY | _=>fun _=>[],fun k=>match k with | _=>fun _=>True⟩
set_option maxRecDepth 100000 in
theorem yp:aM tys_LiB [jD 0] [] [] [] 200 Try.f80 [.one (.int .i64)] [.one (.int .i64)] false [.int .i64] sT_iargs:=⟨by kernel_rfl,by kernel_rfl,by kernel_rfl⟩
set_option maxRecDepth 100000 in
set_option maxHeartbeats 8000000 in
theorem yh (n:Int) (hn:inK .i64 n=true) (ρ:Env) (g:ah ρ 0 [.int .i64]=[.z n]):sT_iargs.asks qJ (fun ρ e=>e.D ρ=cg [.z n]) ρ fun _ _=>False:=by
 simp only[ah,varD,List.cons.injEq,Dt.z.injEq,Dt.l.injEq,b2i_eq_iff,Nat.reduceAdd,and_true] at g
 simp only[sT_iargs,qJ,cY,js,cg,fM,Tr.asks,am,okDs,okD,eqs,E.I,E.B,E.L,E.R,E.D,E.vs,dI,dB,dL,varD,ah,List.getElem?_cons_zero,List.getElem?_cons_succ,List.cons_append,List.nil_append,Nat.zero_add,Nat.add_zero,Nat.reduceAdd,and_true,true_and,b2i_one,-eq_self,Ins.eta,Prog.eta,aa,g]
 intro e; (try simp only[e,Ins.eta,Prog.eta,aa,-eq_self]); clear e
 refine⟨fun c0=> ?_,fun c0=> ?_⟩
 ·rw[abC c0]; try rfl
 ·rw[abD c0]; try rfl
theorem lY {sp:Spec} {key:Nat} (hF:sp.F key=cg) (hP:sp.pre key=fun _=>True:=by rfl):SmOk Try.prog sp (fQ key):=
 aS (s:=fQ key) hF hP (by kernel_rfl) cp (smc (nQ rfl) sm0) Try.func80 fn0 yp (.inl rfl) (fun x0 gx0 hp ρ g=>yh x0 gx0 ρ g)
end Go.Proofs.Ytghiofgomcihcaa
