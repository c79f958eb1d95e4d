import Derived.Test.YtghiofgomcihcaaMoC
import Derived.Test.YtghiofgomcihcaaMoE
import Derived.Test.YtghiofgomcihcaaProg
import Derived.Laws.Externs
set_option linter.unusedVariables false
set_option linter.unusedSimpArgs false
namespace Go.Proofs.Ytghiofgomcihcaa
open Go.RowKit Go.ChangeShapes Go.WideShapes
def tys_MoF:List (Nat×TI):=[(3,⟨false,1,[.int .i64 (.lit 0)],[],none,some .i64,false,false,none,8,false,none,false,0⟩),
 (4,⟨false,1,[.bool (.tt false)],[],none,none,false,true,none,1,false,none,false,0⟩),
 (5,⟨false,1,[.int .u8 (.lit 0)],[],none,some .u8,false,false,none,1,false,none,false,0⟩),
 (9,⟨false,1,[.str .lnil],[],none,none,false,false,none,16,false,none,false,2⟩),
 (22,⟨false,1,[.nsl],[],none,none,false,false,some 44,24,false,none,false,0⟩),
 (24,⟨true,2,[.int .i64 (.lit 0),.nsl],[(0,3),(1,22)],none,none,false,false,none,32,false,none,false,0⟩),
 (25,⟨false,1,[.nsl],[],none,none,false,false,some 5,24,false,none,false,0⟩),
 (26,⟨false,1,[.nsl],[],none,none,false,false,some 30,24,false,none,false,0⟩),
 (29,⟨false,1,[.int .i8 (.lit 0)],[],none,some .i8,false,false,none,1,false,none,false,0⟩),
 (30,⟨false,1,[.int .u64 (.lit 0)],[],none,some .u64,false,false,none,8,false,none,false,0⟩),
 (31,⟨false,1,[.nsl],[],none,none,false,false,some 39,24,false,none,false,0⟩),
 (33,⟨true,5,[.int .i8 (.lit 0),.int .u64 (.lit 0),.nsl,.nsl,.int .i64 (.lit 0)],[(0,29),(1,30),(2,25),(3,31),(4,3)],none,none,false,false,none,72,false,none,false,0⟩),
 (34,⟨false,1,[.int .i64 (.lit 0)],[],none,some .i64,false,false,none,8,false,none,false,0⟩),
 (39,⟨true,3,[.int .i64 (.lit 0),.nsl,.int .u64 (.lit 0)],[(0,3),(1,26),(2,30)],none,none,false,false,none,40,false,none,false,0⟩),
 (44,⟨true,9,[.int .i8 (.lit 0),.int .i8 (.lit 0),.int .i8 (.lit 0),.int .i8 (.lit 0),.bool (.tt false),.int .i8 (.lit 0),.int .i8 (.lit 0),.int .i64 (.lit 0),.int .i64 (.lit 0)],[(0,29),(1,29),(2,29),(3,29),(4,4),(5,29),(6,29),(7,3),(8,3)],none,none,true,false,none,24,false,none,false,0⟩)]
set_option maxRecDepth 100000 in
theorem uk:(tys_MoF.all fun p=>ckTI Try.prog p.1 p.2)=true:=by kernel_rfl
theorem na:(tys_MoF.all fun p=>!p.2.eqok||((Nat.beq p.1 44&&bv p.2.zero iF)))=true:=by kernel_rfl
theorem ua:(tys_MoF.all fun p=>!p.2.keyok)=true:=by kernel_rfl
theorem mW:∀t i,(t,i)∈tys_MoF→TIok Try.prog t i:=by
 intro t i h
 refine cQ (eY (f:=ckTI Try.prog) uk h) (fun he=> ?_) (fun he=> ?_) (fun he=> ?_)
 ·have h1:=List.all_eq_true.1 na (t,i) h
  simp only[he,Bool.not_true,Bool.false_or,Bool.or_eq_true,Bool.and_eq_true] at h1
  have hs:=h1.2
  obtain rfl:=Nat.eq_of_beq_eq_true h1.1
  exact fun vs us hv hu=>iA vs us (aB hs hv) (aB hs hu)
 ·have h1:=List.all_eq_true.1 na (t,i) h
  simp only[he,Bool.not_true,Bool.false_or,Bool.or_eq_true,Bool.and_eq_true] at h1
  have hs:=h1.2
  obtain rfl:=Nat.eq_of_beq_eq_true h1.1
  exact ek
 ·have h1:=List.all_eq_true.1 ua (t,i) h
  simp[he] at h1
def jx (key:Nat):Sm:=⟨10,key,[],[.one .bool],false⟩
def dO:List Dt→List Dt
 | []=>[.z (b2i true)]
 | _=>[]
def sT_lwakes:Tr:=
(.call 0 (kOut++[.int .i64]) (.cons (.lit 0) (.consl (.lcat (.lapp .lnil (.cons (.lit 0) (.cons (.lit 11) (.cons (.lit 64) (.cons (.lit 0) (.consb (.tt false) (.cons (.lit 0) (.cons (.lit 0) (.cons (.lit 0) (.cons (.lit 5) .nil)))))))))) (.lapp .lnil (.cons (.lit 6) (.cons (.lit 0) (.cons (.lit 0) (.cons (.lit 0) (.consb (.tt false) (.cons (.lit 0) (.cons (.lit 0) (.cons (.lit 0) (.cons (.lit 0) .nil))))))))))) (.consl .lnil (.consl .lnil (.cons (.lit 9) .nil))))) 0
(.call 0 (kOut++[.int .i64]) (.cons (.lit 0) (.consl (.ldrop (.lcat (.lapp .lnil (.cons (.lit 0) (.cons (.lit 11) (.cons (.lit 64) (.cons (.lit 0) (.consb (.tt false) (.cons (.lit 0) (.cons (.lit 0) (.cons (.lit 0) (.cons (.lit 5) .nil)))))))))) (.lapp .lnil (.cons (.lit 6) (.cons (.lit 0) (.cons (.lit 0) (.cons (.lit 0) (.consb (.tt false) (.cons (.lit 0) (.cons (.lit 0) (.cons (.lit 0) (.cons (.lit 0) .nil))))))))))) (.lit 1)) (.consl .lnil (.consl .lnil (.cons (.lit 9) .nil))))) 6
(.call 0 (kOut++[.int .i64]) (.cons (.lit 0) (.consl (.lcat (.lapp .lnil (.cons (.lit 5) (.cons (.lit 0) (.cons (.lit 0) (.cons (.lit 0) (.consb (.tt false) (.cons (.lit 0) (.cons (.lit 0) (.cons (.lit 0) (.cons (.lit 0) .nil)))))))))) (.lapp .lnil (.cons (.lit 6) (.cons (.lit 0) (.cons (.lit 0) (.cons (.lit 0) (.consb (.tt false) (.cons (.lit 0) (.cons (.lit 0) (.cons (.lit 0) (.cons (.lit 0) .nil))))))))))) (.consl .lnil (.consl .lnil (.cons (.lit 9) .nil))))) 12
(.br (.eq (.var 5) (.lit 0))
(.br (.eq (.var 0) (.lit 1))
(.br (.eq (.var 1) (.lit 5))
(.br (.eq (.var 4) (.lit 7))
(.br (.eq (.var 11) (.lit 0))
(.br (.eq (.var 6) (.lit 3))
(.br (.eq (.var 17) (.lit 0))
(.leaf (.consb (.eq (.var 12) (.lit 2)) .nil))
(.leaf (.consb (.tt false) .nil)))
(.leaf (.consb (.tt false) .nil)))
(.leaf (.consb (.tt false) .nil)))
(.leaf (.consb (.tt false) .nil)))
(.leaf (.consb (.tt false) .nil)))
(.leaf (.consb (.tt false) .nil)))
(.leaf (.consb (.tt false) .nil))))))
def nI:Spec:=⟨fun k=>match k with | 0=>jF | _=>fun _=>[],fun k=>match k with | 0=>gJ | _=>fun _=>True⟩
set_option maxRecDepth 100000 in
theorem vj:aM tys_MoF [pk 0] [] [(999999,[])] [] 200 Try.f10 [] [.one .bool] false [] sT_lwakes:=⟨by kernel_rfl,by kernel_rfl,by kernel_rfl⟩
set_option maxRecDepth 100000 in
set_option maxHeartbeats 8000000 in
theorem uX (ρ:Env) (g:ah ρ 0 []=[]):sT_lwakes.asks nI (fun ρ e=>e.D ρ=dO []) ρ fun _ _=>False:=by
 simp only[sT_lwakes,nI,kOut,jF,pf,dO,gJ,Tr.asks,am,okDs,okD,eqs,E.I,E.B,E.L,E.R,E.D,E.vs,dI,dB,dL,varD,ah,List.getElem?_cons_zero,List.getElem?_cons_succ,List.cons_append,List.nil_append,Nat.zero_add,Nat.add_zero,Nat.reduceAdd,and_true,true_and,b2i_one,-eq_self,Ins.eta,Prog.eta,aa,Mem.eta,Mach.eta]
 refine⟨?_,?_⟩
 ·exact⟨⟨by decide,by decide⟩,by decide⟩
 intro e; have e:ρ.i 0=1∧ρ.i 1=5∧True∧True∧ρ.i 4=7∧ρ.i 5=0:=⟨e.1.trans (by kernel_rfl),e.2.1.trans (by kernel_rfl),trivial,trivial,e.2.2.2.2.1.trans (by kernel_rfl),e.2.2.2.2.2.trans (by kernel_rfl)⟩; (try simp only[e,Ins.eta,Prog.eta,aa,Mem.eta,Mach.eta,-eq_self]); clear e
 refine⟨?_,?_⟩
 ·exact⟨⟨by decide,by decide⟩,by decide⟩
 intro e; have e:ρ.i 6=3∧ρ.i 7=0∧True∧True∧ρ.i 10=8∧ρ.i 11=0:=⟨e.1.trans (by kernel_rfl),e.2.1.trans (by kernel_rfl),trivial,trivial,e.2.2.2.2.1.trans (by kernel_rfl),e.2.2.2.2.2.trans (by kernel_rfl)⟩; (try simp only[e,Ins.eta,Prog.eta,aa,Mem.eta,Mach.eta,-eq_self]); clear e
 refine⟨?_,?_⟩
 ·exact⟨⟨by decide,by decide⟩,by decide⟩
 intro e; have e:ρ.i 12=2∧ρ.i 13=0∧True∧True∧ρ.i 16=8∧ρ.i 17=0:=⟨e.1.trans (by kernel_rfl),e.2.1.trans (by kernel_rfl),trivial,trivial,e.2.2.2.2.1.trans (by kernel_rfl),e.2.2.2.2.2.trans (by kernel_rfl)⟩; (try simp only[e,Ins.eta,Prog.eta,aa,Mem.eta,Mach.eta,-eq_self]); clear e
 refine⟨fun c0=> ?_,fun c0=> ?_⟩
 refine⟨fun c1=> ?_,fun c1=> ?_⟩
 refine⟨fun c2=> ?_,fun c2=> ?_⟩
 refine⟨fun c3=> ?_,fun c3=> ?_⟩
 refine⟨fun c4=> ?_,fun c4=> ?_⟩
 refine⟨fun c5=> ?_,fun c5=> ?_⟩
 refine⟨fun c6=> ?_,fun c6=> ?_⟩
 ·first | rfl | cases c6
 ·first | rfl | cases c6
 ·first | rfl | cases c5
 ·first | rfl | cases c4
 ·first | rfl | cases c3
 ·first | rfl | cases c2
 ·first | rfl | cases c1
 ·first | rfl | cases c0
theorem vI {sp:Spec} {key:Nat} (hF:sp.F key=dO) (hP:sp.pre key=fun _=>True:=by rfl):SmOk Try.prog sp (jx key):=
 aS (s:=jx key) hF hP (by kernel_rfl) mW (smc (aaO rfl rfl) sm0) Try.func10 fn0 vj (.inl rfl) (fun hp ρ g=>uX ρ g)
def iS (key:Nat):Sm:=⟨27,key,[.one (.int .i64)],[.one (.int .i64)],false⟩
def iO (n:Int):List Dt:=[.z (bo n)]
def dk:List Dt→List Dt
 | [.z x0]=>iO x0
 | _=>[]
def sT_jargs:Tr:=
(.br (.lt (.var 0) (.lit 0))
(.leaf (.cons (.lit 0) .nil))
(.br (.lt (.var 0) (.lit 16))
(.leaf (.cons (.bin .rem .i64 (.var 0) (.lit 6)) .nil))
(.leaf (.cons (.lit 0) .nil))))
def qH:Spec:=⟨fun k=>match k with | _=>fun _=>[],fun k=>match k with | _=>fun _=>True⟩
set_option maxRecDepth 100000 in
theorem yn:aM tys_MoF [] [] [] [] 200 Try.f27 [.one (.int .i64)] [.one (.int .i64)] false [.int .i64] sT_jargs:=⟨by kernel_rfl,by kernel_rfl,by kernel_rfl⟩
set_option maxRecDepth 100000 in
set_option maxHeartbeats 8000000 in
theorem yf (n:Int) (hn:inK .i64 n=true) (ρ:Env) (g:ah ρ 0 [.int .i64]=[.z n]):sT_jargs.asks qH (fun ρ e=>e.D ρ=dk [.z n]) ρ fun _ _=>False:=by
 simp only[ah,varD,List.cons.injEq,Dt.z.injEq,Dt.l.injEq,b2i_eq_iff,Nat.reduceAdd,and_true] at g
 simp only[sT_jargs,qH,dk,iO,Tr.asks,am,okDs,okD,eqs,E.I,E.B,E.L,E.R,E.D,E.vs,dI,dB,dL,varD,ah,List.getElem?_cons_zero,List.getElem?_cons_succ,List.cons_append,List.nil_append,Nat.zero_add,Nat.add_zero,Nat.reduceAdd,and_true,true_and,b2i_one,-eq_self,Ins.eta,Prog.eta,aa,Mem.eta,Mach.eta,g]
 refine⟨fun c0=> ?_,fun c0=> ?_⟩
 ·(unfold bo; simp_all<;>omega)
 refine⟨fun c1=> ?_,fun c1=> ?_⟩
 ·(unfold bo; simp_all<;>omega)
 ·(unfold bo; simp_all<;>omega)
theorem qP {sp:Spec} {key:Nat} (hF:sp.F key=dk) (hP:sp.pre key=fun _=>True:=by rfl):SmOk Try.prog sp (iS key):=
 aS (s:=iS key) hF hP (by kernel_rfl) mW (sm0) Try.func27 fn0 yn (.inl rfl) (fun x0 gx0 hp ρ g=>yf x0 gx0 ρ g)
end Go.Proofs.Ytghiofgomcihcaa
