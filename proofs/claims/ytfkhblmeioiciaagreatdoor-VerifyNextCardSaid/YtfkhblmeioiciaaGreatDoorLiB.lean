import Derived.Test.YtfkhblmeioiciaaGreatDoorLiA
import Derived.Test.YtfkhblmeioiciaaGreatDoorProg
import Derived.Laws.Externs
set_option linter.unusedVariables false
set_option linter.unusedSimpArgs false
namespace Go.Proofs.YtfkhblmeioiciaaGreatDoor
open Go.RowKit Go.ChangeShapes Go.WideShapes
theorem Ins.eta (a:Ins):(⟨a.k,a.op,a.w,a.sz,a.br,a.d,a.s,a.off,a.imm⟩:Ins)=a:=rfl
def Ins.ok (a:Ins):Prop:=inK .i8 a.k=true∧inK .i8 a.op=true∧inK .i8 a.w=true∧inK .i8 a.sz=true∧inK .i8 a.d=true∧inK .i8 a.s=true∧inK .i64 a.off=true∧inK .i64 a.imm=true
def kIns:List CK:=[.int .i8,.int .i8,.int .i8,.int .i8,.bool,.int .i8,.int .i8,.int .i64,.int .i64]
theorem Prog.eta (a:Prog):(⟨a.ctx,a.l⟩:Prog)=a:=rfl
def Prog.ok (a:Prog):Prop:=inK .i64 a.ctx=true∧RowsIn (kN 9 220090000) a.l
def rS:List CK:=[.int .i64,.sl (kN 9 220090000) 39]
def mU:List C:=[.int .i8 (.lit 0),.int .i8 (.lit 0),.int .i8 (.lit 0),.int .i8 (.lit 0),.bool (.tt false),.int .i8 (.lit 0),.int .i8 (.lit 0),.int .i64 (.lit 0),.int .i64 (.lit 0)]
theorem jL:Tryz.prog.eqGuardType Tryz.prog.depth 39=false:=by kernel_rfl
theorem uH:Tryz.prog.cellsOf 39=9:=by kernel_rfl
theorem uI:Tryz.prog.cellsOf 37=1:=by kernel_rfl
theorem yE:Tryz.prog.cellsOf 4=1:=by kernel_rfl
theorem yP:Tryz.prog.cellsOf 3=1:=by kernel_rfl
set_option maxRecDepth 100000 in
theorem ak0 (vs:List Value) (hv:aB vs mU):Tryz.prog.keyLits 6 39 vs=some (bf vs):=by
 obtain⟨x0,_,rfl,g0,hv⟩:=ah hv
 obtain⟨x1,_,rfl,g1,hv⟩:=ah hv
 obtain⟨x2,_,rfl,g2,hv⟩:=ah hv
 obtain⟨x3,_,rfl,g3,hv⟩:=ah hv
 obtain⟨x4,_,rfl,hv⟩:=bS hv
 obtain⟨x5,_,rfl,g5,hv⟩:=ah hv
 obtain⟨x6,_,rfl,g6,hv⟩:=ah hv
 obtain⟨x7,_,rfl,g7,hv⟩:=ah hv
 obtain⟨x8,_,rfl,g8,hv⟩:=ah hv
 obtain rfl:=aM hv
 simp[Program.keyLits,Tryz.underlying39,Tryz.underlying37,Tryz.underlying4,Tryz.underlying3,uH,uI,yE,yP,wQ,bf,g0,g1,g2,g3,g5,g6,g7,g8]
theorem ak9 (vs:List Value) (hv:aB vs mU):(Value.agg vs.toArray).formed Tryz.prog 39=true:=by
 obtain⟨x0,_,rfl,g0,hv⟩:=ah hv
 obtain⟨x1,_,rfl,g1,hv⟩:=ah hv
 obtain⟨x2,_,rfl,g2,hv⟩:=ah hv
 obtain⟨x3,_,rfl,g3,hv⟩:=ah hv
 obtain⟨x4,_,rfl,hv⟩:=bS hv
 obtain⟨x5,_,rfl,g5,hv⟩:=ah hv
 obtain⟨x6,_,rfl,g6,hv⟩:=ah hv
 obtain⟨x7,_,rfl,g7,hv⟩:=ah hv
 obtain⟨x8,_,rfl,g8,hv⟩:=ah hv
 obtain rfl:=aM hv
 kernel_rfl
theorem nO (vs us:List Value) (hv:aB vs mU) (hu:aB us mU) (w:World):(Op.equal 39 (.agg vs.toArray) (.agg us.toArray)).run Tryz.prog w=.ok (eqVs vs us) w:=
 fI (by kernel_rfl) ak9 6 ak0 vs us hv hu w
def tys_LiB:List (Nat×TI):=[(3,⟨false,1,[.int .i64 (.lit 0)],[],none,some .i64,false,false,none,8,false,none,false,0⟩),
 (4,⟨false,1,[.bool (.tt false)],[],none,none,false,true,none,1,false,none,false,0⟩),
 (37,⟨false,1,[.int .i8 (.lit 0)],[],none,some .i8,false,false,none,1,false,none,false,0⟩),
 (39,⟨true,9,(zN 9 220090000),[(0,37),(1,37),(2,37),(3,37),(4,4),(5,37),(6,37),(7,3),(8,3)],none,none,true,false,none,24,false,none,false,0⟩)]
set_option maxRecDepth 100000 in
theorem zX:(tys_LiB.all fun p=>ckTI Tryz.prog p.1 p.2)=true:=by kernel_rfl
theorem qB:(tys_LiB.all fun p=>!p.2.eqok||((Nat.beq p.1 39&&aW p.2.zero mU)))=true:=by kernel_rfl
theorem zG:(tys_LiB.all fun p=>!p.2.keyok)=true:=by kernel_rfl
theorem cV:∀t i,(t,i)∈tys_LiB→TIok Tryz.prog t i:=by
 intro t i h
 refine bI (cM (f:=ckTI Tryz.prog) zX h) (fun he=> ?_) (fun he=> ?_) (fun he=> ?_)
 ·have h1:=List.all_eq_true.1 qB (t,i) h
  simp only[he,Bool.not_true,Bool.false_or,Bool.or_eq_true,Bool.and_eq_true] at h1
  have hs:=h1.2
  obtain rfl:=Nat.eq_of_beq_eq_true h1.1
  exact fun vs us hv hu=>nO vs us (ap hs hv) (ap hs hu)
 ·have h1:=List.all_eq_true.1 qB (t,i) h
  simp only[he,Bool.not_true,Bool.false_or,Bool.or_eq_true,Bool.and_eq_true] at h1
  have hs:=h1.2
  obtain rfl:=Nat.eq_of_beq_eq_true h1.1
  exact jL
 ·have h1:=List.all_eq_true.1 zG (t,i) h
  simp[he] at h1
def lC (key:Nat):Sm:=⟨35,key,[.one (.int .i64),.one (.int .i64),.one (.int .i64)],[.one .bool],false⟩
def ln (n:Int) (a:Int) (b:Int):List Dt:=[.z (b2i ((decide (a≤n)&&decide (n≤b))))]
def dR:List Dt→List Dt
 | [.z x0,.z x1,.z x2]=>ln x0 x1 x2
 | _=>[]
def sT_iwi:Tr:=
(.br (.lt (.var 0) (.var 1))
(.leaf (.consb (.tt false) .nil))
(.leaf (.consb (.not (.lt (.var 2) (.var 0))) .nil)))
def af3:Spec:={F:=fun k=>match k with | _=>fun _=>[],pre:=fun k=>match k with | _=>fun _=>True}
set_option maxRecDepth 100000 in
theorem akp:am tys_LiB [] [] [] [] 200 Tryz.f35 [.one (.int .i64),.one (.int .i64),.one (.int .i64)] [.one .bool] false [.int .i64,.int .i64,.int .i64] sT_iwi:=⟨by kernel_rfl,by kernel_rfl,by kernel_rfl⟩
set_option maxRecDepth 100000 in
set_option maxHeartbeats 8000000 in
theorem aj7 (n:Int) (hn:inK .i64 n=true) (a:Int) (ha:inK .i64 a=true) (b:Int) (hb:inK .i64 b=true) (ρ:Env) (g:af ρ 0 [.int .i64,.int .i64,.int .i64]=[.z n,.z a,.z b]):sT_iwi.asks af3 (fun ρ e=>e.D ρ=dR [.z n,.z a,.z b]) ρ fun _ _=>False:=by
 simp only[af,varD,List.cons.injEq,Dt.z.injEq,Dt.l.injEq,b2i_eq_iff,Nat.reduceAdd,and_true] at g
 simp only[sT_iwi,af3,dR,ln,Tr.asks,ai,okDs,okD,eqs,E.I,E.B,E.L,E.R,E.D,E.vs,E.gs,E.ins,E.sv,E.tn,E.iv,E.zs,E.pv,Nat.reduceSub,dI,dB,dL,varD,af,S1,Nat.reduceAdd,-eq_self,Ins.eta,Prog.eta,aa,g]
 constructor<;>intro c0
 ·(refine zb ?_; rw[Bool.eq_iff_iff]; simp at *; omega)
 ·(refine zb ?_; rw[Bool.eq_iff_iff]; simp at *; omega)
theorem rh {sp:Spec} {key:Nat} (hF:sp.F key=dR) (hP:sp.pre key=fun _=>True:=by rfl):SmOk Tryz.prog sp (lC key):=
 an (s:=lC key) hF hP (by kernel_rfl) cV (sm0) Tryz.func35 fn0 akp (.inl rfl) (fun x0 gx0 x1 gx1 x2 gx2 hp ρ g=>aj7 x0 gx0 x1 gx1 x2 gx2 ρ g)
def vO (key:Nat):Sm:=⟨66,key,[.one (.int .i8),.one (.int .i8),.one (.int .i8)],[.one .bool],false⟩
def vr (n:Int) (a:Int) (b:Int):List Dt:=[.z (b2i ((decide (a≤n)&&decide (n≤b))))]
def mf:List Dt→List Dt
 | [.z x0,.z x1,.z x2]=>vr x0 x1 x2
 | _=>[]
def sT_iwb:Tr:=
(.br (.lt (.var 0) (.var 1))
(.leaf (.consb (.tt false) .nil))
(.leaf (.consb (.not (.lt (.var 2) (.var 0))) .nil)))
def af4:Spec:={F:=fun k=>match k with | _=>fun _=>[],pre:=fun k=>match k with | _=>fun _=>True}
set_option maxRecDepth 100000 in
theorem akq:am tys_LiB [] [] [] [] 200 Tryz.f66 [.one (.int .i8),.one (.int .i8),.one (.int .i8)] [.one .bool] false [.int .i8,.int .i8,.int .i8] sT_iwb:=⟨by kernel_rfl,by kernel_rfl,by kernel_rfl⟩
set_option maxRecDepth 100000 in
set_option maxHeartbeats 8000000 in
theorem aj8 (n:Int) (hn:inK .i8 n=true) (a:Int) (ha:inK .i8 a=true) (b:Int) (hb:inK .i8 b=true) (ρ:Env) (g:af ρ 0 [.int .i8,.int .i8,.int .i8]=[.z n,.z a,.z b]):sT_iwb.asks af4 (fun ρ e=>e.D ρ=mf [.z n,.z a,.z b]) ρ fun _ _=>False:=by
 simp only[af,varD,List.cons.injEq,Dt.z.injEq,Dt.l.injEq,b2i_eq_iff,Nat.reduceAdd,and_true] at g
 simp only[sT_iwb,af4,mf,vr,Tr.asks,ai,okDs,okD,eqs,E.I,E.B,E.L,E.R,E.D,E.vs,E.gs,E.ins,E.sv,E.tn,E.iv,E.zs,E.pv,Nat.reduceSub,dI,dB,dL,varD,af,S1,Nat.reduceAdd,-eq_self,Ins.eta,Prog.eta,aa,g]
 constructor<;>intro c0
 ·(refine zb ?_; rw[Bool.eq_iff_iff]; simp at *; omega)
 ·(refine zb ?_; rw[Bool.eq_iff_iff]; simp at *; omega)
theorem aga {sp:Spec} {key:Nat} (hF:sp.F key=mf) (hP:sp.pre key=fun _=>True:=by rfl):SmOk Tryz.prog sp (vO key):=
 an (s:=vO key) hF hP (by kernel_rfl) cV (sm0) Tryz.func66 fn0 akq (.inl rfl) (fun x0 gx0 x1 gx1 x2 gx2 hp ρ g=>aj8 x0 gx0 x1 gx1 x2 gx2 ρ g)
def abM (key:Nat):Sm:=⟨126,key,[.one (.int .i8)],[.one .bool],false⟩
def aaY (n:Int):List Dt:=[.z (b2i (fQ n))]
def ru:List Dt→List Dt
 | [.z x0]=>aaY x0
 | _=>[]
def sT_isz:Tr:=
(.br (.eq (.var 0) (.lit 1))
(.leaf (.consb (.tt true) .nil))
(.br (.eq (.var 0) (.lit 2))
(.leaf (.consb (.tt true) .nil))
(.br (.eq (.var 0) (.lit 4))
(.leaf (.consb (.tt true) .nil))
(.leaf (.consb (.eq (.var 0) (.lit 8)) .nil)))))
def af5:Spec:={F:=fun k=>match k with | _=>fun _=>[],pre:=fun k=>match k with | _=>fun _=>True}
set_option maxRecDepth 100000 in
theorem akr:am tys_LiB [] [] [] [] 200 Tryz.f126 [.one (.int .i8)] [.one .bool] false [.int .i8] sT_isz:=⟨by kernel_rfl,by kernel_rfl,by kernel_rfl⟩
set_option maxRecDepth 100000 in
set_option maxHeartbeats 8000000 in
theorem aj9 (n:Int) (hn:inK .i8 n=true) (ρ:Env) (g:af ρ 0 [.int .i8]=[.z n]):sT_isz.asks af5 (fun ρ e=>e.D ρ=ru [.z n]) ρ fun _ _=>False:=by
 simp only[af,varD,List.cons.injEq,Dt.z.injEq,Dt.l.injEq,b2i_eq_iff,Nat.reduceAdd,and_true] at g
 simp only[sT_isz,af5,ru,aaY,Tr.asks,ai,okDs,okD,eqs,E.I,E.B,E.L,E.R,E.D,E.vs,E.gs,E.ins,E.sv,E.tn,E.iv,E.zs,E.pv,Nat.reduceSub,dI,dB,dL,varD,af,S1,Nat.reduceAdd,-eq_self,Ins.eta,Prog.eta,aa,g]
 constructor<;>intro c0
 ·(refine zb ?_; unfold fQ; rw[Bool.eq_iff_iff]; simp at *; omega)
 constructor<;>intro c1
 ·(refine zb ?_; unfold fQ; rw[Bool.eq_iff_iff]; simp at *; omega)
 constructor<;>intro c2
 ·(refine zb ?_; unfold fQ; rw[Bool.eq_iff_iff]; simp at *; omega)
 ·(refine zb ?_; unfold fQ; rw[Bool.eq_iff_iff]; simp at *; omega)
theorem akG {sp:Spec} {key:Nat} (hF:sp.F key=ru) (hP:sp.pre key=fun _=>True:=by rfl):SmOk Tryz.prog sp (abM key):=
 an (s:=abM key) hF hP (by kernel_rfl) cV (sm0) Tryz.func126 fn0 akr (.inl rfl) (fun x0 gx0 hp ρ g=>aj9 x0 gx0 ρ g)
def pi (key:Nat):Sm:=⟨67,key,[.agg kIns],[.agg kIns,.one .bool],true⟩
def oP (x:Ins):List Dt:=[.z (((aR x).1).k),.z (((aR x).1).op),.z (((aR x).1).w),.z (((aR x).1).sz),.z (b2i (((aR x).1).br)),.z (((aR x).1).d),.z (((aR x).1).s),.z (((aR x).1).off),.z (((aR x).1).imm),.z (b2i ((aR x).2))]
def iG:List Dt→List Dt
 | [.z x0,.z x1,.z x2,.z x3,.z x4,.z x5,.z x6,.z x7,.z x8]=>oP ⟨x0,x1,x2,x3,(x4==1),x5,x6,x7,x8⟩
 | _=>[]
set_option maxRecDepth 100000 in
def sT_ibare:Tr:=
(.br (.eq (.var 0) (.lit 0))
(.call 1 [.bool] (.cons (.var 1) (.cons (.lit 0) (.cons (.lit 12) .nil))) 9
(.br (.bvar 9)
(.br (.eq (.var 2) (.lit 32))
(.br (.lt (.var 5) (.lit 10))
(.br (.eq (.var 1) (.lit 8))
(.br (.bvar 4)
(.leaf (.cons (.var 0) (.cons (.lit 0) (.cons (.lit 0) (.cons (.var 3) (.consb (.tt false) (.cons (.lit 0) (.cons (.lit 0) (.vs 7 2 (.consb (.tt false) .nil))))))))))
(.leaf (.cons (.var 0) (.cons (.lit 0) (.cons (.lit 0) (.cons (.var 3) (.consb (.tt false) (.cons (.lit 0) (.vs 6 2 (.cons (.lit 0) (.consb (.eq (.var 8) (.lit 0)) .nil)))))))))))
(.br (.bvar 4)
(.leaf (.cons (.var 0) (.cons (.lit 0) (.cons (.lit 0) (.cons (.var 3) (.consb (.tt false) (.cons (.lit 0) (.cons (.lit 0) (.vs 7 2 (.consb (.tt true) .nil))))))))))
(.leaf (.cons (.var 0) (.cons (.lit 0) (.cons (.lit 0) (.cons (.var 3) (.consb (.tt false) (.cons (.lit 0) (.vs 6 2 (.cons (.lit 0) (.consb (.tt true) .nil))))))))))))
(.br (.bvar 4)
(.leaf (.cons (.var 0) (.cons (.lit 0) (.cons (.lit 0) (.cons (.var 3) (.consb (.tt false) (.cons (.lit 0) (.cons (.lit 0) (.vs 7 2 (.consb (.tt false) .nil))))))))))
(.leaf (.cons (.var 0) (.cons (.lit 0) (.cons (.lit 0) (.cons (.var 3) (.consb (.tt false) (.cons (.lit 0) (.vs 6 2 (.cons (.lit 0) (.consb (.tt false) .nil))))))))))))
(.br (.eq (.var 2) (.lit 64))
(.br (.lt (.var 5) (.lit 10))
(.br (.eq (.var 1) (.lit 8))
(.br (.bvar 4)
(.leaf (.cons (.var 0) (.cons (.lit 0) (.cons (.lit 0) (.cons (.var 3) (.consb (.tt false) (.cons (.lit 0) (.cons (.lit 0) (.vs 7 2 (.consb (.tt false) .nil))))))))))
(.leaf (.cons (.var 0) (.cons (.lit 0) (.cons (.lit 0) (.cons (.var 3) (.consb (.tt false) (.cons (.lit 0) (.vs 6 2 (.cons (.lit 0) (.consb (.eq (.var 8) (.lit 0)) .nil)))))))))))
(.br (.bvar 4)
(.leaf (.cons (.var 0) (.cons (.lit 0) (.cons (.lit 0) (.cons (.var 3) (.consb (.tt false) (.cons (.lit 0) (.cons (.lit 0) (.vs 7 2 (.consb (.tt true) .nil))))))))))
(.leaf (.cons (.var 0) (.cons (.lit 0) (.cons (.lit 0) (.cons (.var 3) (.consb (.tt false) (.cons (.lit 0) (.vs 6 2 (.cons (.lit 0) (.consb (.tt true) .nil))))))))))))
(.br (.bvar 4)
(.leaf (.cons (.var 0) (.cons (.lit 0) (.cons (.lit 0) (.cons (.var 3) (.consb (.tt false) (.cons (.lit 0) (.cons (.lit 0) (.vs 7 2 (.consb (.tt false) .nil))))))))))
(.leaf (.cons (.var 0) (.cons (.lit 0) (.cons (.lit 0) (.cons (.var 3) (.consb (.tt false) (.cons (.lit 0) (.vs 6 2 (.cons (.lit 0) (.consb (.tt false) .nil))))))))))))
(.br (.bvar 4)
(.leaf (.cons (.var 0) (.cons (.lit 0) (.cons (.lit 0) (.cons (.var 3) (.consb (.tt false) (.cons (.lit 0) (.cons (.lit 0) (.vs 7 2 (.consb (.tt false) .nil))))))))))
(.leaf (.cons (.var 0) (.cons (.lit 0) (.cons (.lit 0) (.cons (.var 3) (.consb (.tt false) (.cons (.lit 0) (.vs 6 2 (.cons (.lit 0) (.consb (.tt false) .nil)))))))))))))
(.br (.bvar 4)
(.leaf (.cons (.var 0) (.cons (.lit 0) (.cons (.lit 0) (.cons (.var 3) (.consb (.tt false) (.cons (.lit 0) (.cons (.lit 0) (.vs 7 2 (.consb (.tt false) .nil))))))))))
(.leaf (.cons (.var 0) (.cons (.lit 0) (.cons (.lit 0) (.cons (.var 3) (.consb (.tt false) (.cons (.lit 0) (.vs 6 2 (.cons (.lit 0) (.consb (.tt false) .nil)))))))))))))
(.br (.eq (.var 0) (.lit 1))
(.call 2 [.bool] (.cons (.var 3) .nil) 9
(.br (.bvar 9)
(.leaf (.vs 0 3 (.cons (.lit 0) (.consb (.bvar 4) (.zs [0,0,0] (.cons (.var 8) (.consb (.lt (.var 5) (.lit 10)) .nil)))))))
(.leaf (.vs 0 3 (.cons (.lit 0) (.consb (.bvar 4) (.zs [0,0,0] (.cons (.var 8) (.consb (.tt false) .nil)))))))))
(.br (.eq (.var 0) (.lit 2))
(.call 2 [.bool] (.cons (.var 3) .nil) 9
(.leaf (.vs 0 3 (.cons (.lit 0) (.consb (.bvar 4) (.zs [0,0,0] (.cons (.var 8) (.consb (.bvar 9) .nil))))))))
(.br (.eq (.var 0) (.lit 3))
(.call 1 [.bool] (.cons (.var 1) (.cons (.lit 0) (.cons (.lit 10) .nil))) 9
(.br (.bvar 4)
(.leaf (.cons (.var 0) (.cons (.lit 0) (.vs 2 2 (.consb (.tt false) (.zs [0,0,0] (.cons (.var 8) (.consb (.bvar 9) .nil))))))))
(.leaf (.cons (.var 0) (.cons (.lit 0) (.vs 2 2 (.consb (.tt false) (.cons (.lit 0) (.cons (.var 6) (.cons (.lit 0) (.cons (.lit 0) (.consb (.bvar 9) .nil))))))))))))
(.br (.eq (.var 0) (.lit 4))
(.leaf (.vs 0 4 (.consb (.bvar 4) (.vs 5 2 (.cons (.lit 0) (.cons (.var 8) (.consb (.tt true) .nil)))))))
(.br (.eq (.var 0) (.lit 5))
(.call 0 [.bool] (.cons (.var 8) (.cons (.lit 0) (.cons (.lit 15) .nil))) 9
(.leaf (.vs 0 4 (.consb (.bvar 4) (.vs 5 3 (.cons (.lit 0) (.consb (.bvar 9) .nil)))))))
(.br (.eq (.var 0) (.lit 6))
(.leaf (.vs 0 4 (.consb (.bvar 4) (.vs 5 4 (.consb (.tt true) .nil)))))
(.leaf (.vs 0 4 (.consb (.bvar 4) (.vs 5 4 (.consb (.tt false) .nil))))))))))))
def vK:Spec:={F:=fun k=>match k with | 0=>dR | 1=>mf | 2=>ru | _=>fun _=>[],pre:=fun k=>match k with | _=>fun _=>True}
set_option maxRecDepth 100000 in
theorem aeA:am tys_LiB [lC 0,vO 1,abM 2] [(125,Tryz.f125,[],[])] [] [] 200 Tryz.f67 [.agg kIns] [.agg kIns,.one .bool] true [.int .i8,.int .i8,.int .i8,.int .i8,.bool,.int .i8,.int .i8,.int .i64,.int .i64] sT_ibare:=⟨by kernel_rfl,by kernel_rfl,by kernel_rfl⟩
set_option maxRecDepth 100000 in
set_option maxHeartbeats 8000000 in
theorem aeg (x:Ins) (hx:Ins.ok x) (ρ:Env) (g:af ρ 0 [.int .i8,.int .i8,.int .i8,.int .i8,.bool,.int .i8,.int .i8,.int .i64,.int .i64]=[.z x.k,.z x.op,.z x.w,.z x.sz,.z (b2i x.br),.z x.d,.z x.s,.z x.off,.z x.imm]):sT_ibare.asks vK (fun ρ e=>e.D ρ=iG [.z x.k,.z x.op,.z x.w,.z x.sz,.z (b2i x.br),.z x.d,.z x.s,.z x.off,.z x.imm]) ρ fun _ _=>False:=by
 simp only[af,varD,List.cons.injEq,Dt.z.injEq,Dt.l.injEq,b2i_eq_iff,Nat.reduceAdd,and_true] at g
 simp only[sT_ibare,vK,dR,mf,ru,ln,vr,aaY,iG,oP,Tr.asks,ai,okDs,okD,eqs,E.I,E.B,E.L,E.R,E.D,E.vs,E.gs,E.ins,E.sv,E.tn,E.iv,E.zs,E.pv,Nat.reduceSub,dI,dB,dL,varD,af,S1,Nat.reduceAdd,-eq_self,Ins.eta,Prog.eta,aa,g]
 constructor<;>intro c0
 intro e; (try simp only[e,Ins.eta,Prog.eta,aa,-eq_self]); clear e
 constructor<;>intro c1
 constructor<;>intro c2
 constructor<;>intro c3
 constructor<;>intro c4
 constructor<;>intro c5
 ·(unfold aR immz; simp_all<;>omega)
 ·(unfold aR immz; simp_all<;>omega)
 constructor<;>intro c6
 ·(unfold aR immz; simp_all<;>omega)
 ·(unfold aR immz; simp_all<;>omega)
 constructor<;>intro c7
 ·(unfold aR immz; simp_all<;>omega)
 ·(unfold aR immz; simp_all<;>omega)
 constructor<;>intro c8
 constructor<;>intro c9
 constructor<;>intro c10
 constructor<;>intro c11
 ·(unfold aR immz; simp_all<;>omega)
 ·(unfold aR immz; simp_all<;>omega)
 constructor<;>intro c12
 ·(unfold aR immz; simp_all<;>omega)
 ·(unfold aR immz; simp_all<;>omega)
 constructor<;>intro c13
 ·(unfold aR immz; simp_all<;>omega)
 ·(unfold aR immz; simp_all<;>omega)
 constructor<;>intro c14
 ·(unfold aR immz; simp_all<;>omega)
 ·(unfold aR immz; simp_all<;>omega)
 constructor<;>intro c15
 ·(unfold aR immz; simp_all<;>omega)
 ·(unfold aR immz; simp_all<;>omega)
 constructor<;>intro c16
 intro e; (try simp only[e,Ins.eta,Prog.eta,aa,-eq_self]); clear e
 constructor<;>intro c17
 ·(unfold aR immz; simp_all<;>omega)
 ·(unfold aR immz; simp_all<;>omega)
 constructor<;>intro c18
 intro e; (try simp only[e,Ins.eta,Prog.eta,aa,-eq_self]); clear e
 ·(unfold aR immz; simp_all<;>omega)
 constructor<;>intro c19
 intro e; (try simp only[e,Ins.eta,Prog.eta,aa,-eq_self]); clear e
 constructor<;>intro c20
 ·(unfold aR immz; simp_all<;>omega)
 ·(unfold aR immz; simp_all<;>omega)
 constructor<;>intro c21
 ·(unfold aR immz; simp_all<;>omega)
 constructor<;>intro c22
 intro e; (try simp only[e,Ins.eta,Prog.eta,aa,-eq_self]); clear e
 ·(unfold aR immz; simp_all<;>omega)
 constructor<;>intro c23
 ·(unfold aR immz; simp_all<;>omega)
 ·(unfold aR immz; simp_all<;>omega)
theorem aeQ {sp:Spec} {key:Nat} (hF:sp.F key=iG) (hP:sp.pre key=fun _=>True:=by rfl):SmOk Tryz.prog sp (pi key):=
 an (s:=pi key) hF hP (by kernel_rfl) cV (smc (rh rfl) (smc (aga rfl) (smc (akG rfl) sm0))) Tryz.func67 (fnc Tryz.func125 fn0) aeA (.inl rfl) (fun x0 gx0 x1 gx1 x2 gx2 x3 gx3 x4 x5 gx5 x6 gx6 x7 gx7 x8 gx8 hp ρ g=>aeg ⟨x0,x1,x2,x3,x4,x5,x6,x7,x8⟩ ⟨gx0,gx1,gx2,gx3,gx5,gx6,gx7,gx8⟩ ρ g)
def lz (key:Nat):Sm:=⟨26,key,[.agg kIns],[.one .bool],false⟩
def lj (x:Ins):List Dt:=[.z (b2i (imay x))]
def eo:List Dt→List Dt
 | [.z x0,.z x1,.z x2,.z x3,.z x4,.z x5,.z x6,.z x7,.z x8]=>lj ⟨x0,x1,x2,x3,(x4==1),x5,x6,x7,x8⟩
 | _=>[]
def sT_nmay:Tr:=
(.call 1 [.bool] (.cons (.var 5) (.cons (.lit 0) (.cons (.lit 10) .nil))) 9
(.br (.bvar 9)
(.call 1 [.bool] (.cons (.var 6) (.cons (.lit 0) (.cons (.lit 10) .nil))) 10
(.br (.bvar 10)
(.call 0 [.bool] (.cons (.var 7) (.cons (.lit (-32768)) (.cons (.lit 32767) .nil))) 11
(.br (.bvar 11)
(.call 0 [.bool] (.cons (.var 8) (.cons (.lit (-2147483648)) (.cons (.lit 2147483647) .nil))) 12
(.br (.bvar 12)
(.call 2 (kIns++[.bool]) (.vs 0 4 (.consb (.bvar 4) (.vs 5 4 .nil))) 13
(.br (.bvar 22)
(.leaf (.consb (.and (.eq (.var 13) (.var 0)) (.and (.eq (.var 14) (.lit 0)) (.and (.eq (.var 15) (.lit 0)) (.and (.eq (.var 16) (.lit 0)) (.and (.not (.bvar 17)) (.and (.eq (.var 18) (.lit 0)) (.and (.eq (.var 19) (.lit 0)) (.and (.eq (.var 20) (.lit 0)) (.and (.eq (.var 21) (.lit 0)) (.tt true)))))))))) .nil))
(.leaf (.consb (.tt false) .nil))))
(.leaf (.consb (.tt false) .nil))))
(.leaf (.consb (.tt false) .nil))))
(.leaf (.consb (.tt false) .nil))))
(.leaf (.consb (.tt false) .nil))))
def abl:Spec:={F:=fun k=>match k with | 0=>dR | 1=>mf | 2=>iG | _=>fun _=>[],pre:=fun k=>match k with | _=>fun _=>True}
set_option maxRecDepth 100000 in
theorem ahV:am tys_LiB [lC 0,vO 1,pi 2] [] [] [] 200 Tryz.f26 [.agg kIns] [.one .bool] false [.int .i8,.int .i8,.int .i8,.int .i8,.bool,.int .i8,.int .i8,.int .i64,.int .i64] sT_nmay:=⟨by kernel_rfl,by kernel_rfl,by kernel_rfl⟩
set_option maxRecDepth 100000 in
set_option maxHeartbeats 8000000 in
theorem ahl (x:Ins) (hx:Ins.ok x) (ρ:Env) (g:af ρ 0 [.int .i8,.int .i8,.int .i8,.int .i8,.bool,.int .i8,.int .i8,.int .i64,.int .i64]=[.z x.k,.z x.op,.z x.w,.z x.sz,.z (b2i x.br),.z x.d,.z x.s,.z x.off,.z x.imm]):sT_nmay.asks abl (fun ρ e=>e.D ρ=eo [.z x.k,.z x.op,.z x.w,.z x.sz,.z (b2i x.br),.z x.d,.z x.s,.z x.off,.z x.imm]) ρ fun _ _=>False:=by
 simp only[af,varD,List.cons.injEq,Dt.z.injEq,Dt.l.injEq,b2i_eq_iff,Nat.reduceAdd,and_true] at g
 simp only[sT_nmay,abl,kIns,dR,mf,iG,ln,vr,oP,eo,lj,Tr.asks,ai,okDs,okD,eqs,E.I,E.B,E.L,E.R,E.D,E.vs,E.gs,E.ins,E.sv,E.tn,E.iv,E.zs,E.pv,Nat.reduceSub,dI,dB,dL,varD,af,S1,Nat.reduceAdd,-eq_self,Ins.eta,Prog.eta,aa,g]
 intro e; (try simp only[e,Ins.eta,Prog.eta,aa,-eq_self]); clear e
 constructor<;>intro c0
 intro e; (try simp only[e,Ins.eta,Prog.eta,aa,-eq_self]); clear e
 constructor<;>intro c1
 intro e; (try simp only[e,Ins.eta,Prog.eta,aa,-eq_self]); clear e
 constructor<;>intro c2
 intro e; (try simp only[e,Ins.eta,Prog.eta,aa,-eq_self]); clear e
 constructor<;>intro c3
 intro e; (try simp only[e,Ins.eta,Prog.eta,aa,-eq_self]); clear e
 constructor<;>intro c4
 ·(unfold imay cK di; simp_all<;>omega)
 ·(unfold imay cK di; simp_all<;>omega)
 ·(unfold imay cK di; simp_all<;>omega)
 ·(unfold imay cK di; simp_all<;>omega)
 ·(unfold imay cK di; simp_all<;>omega)
 ·(unfold imay cK di; simp_all<;>omega)
theorem tU {sp:Spec} {key:Nat} (hF:sp.F key=eo) (hP:sp.pre key=fun _=>True:=by rfl):SmOk Tryz.prog sp (lz key):=
 an (s:=lz key) hF hP (by kernel_rfl) cV (smc (rh rfl) (smc (aga rfl) (smc (aeQ rfl) sm0))) Tryz.func26 fn0 ahV (.inl rfl) (fun x0 gx0 x1 gx1 x2 gx2 x3 gx3 x4 x5 gx5 x6 gx6 x7 gx7 x8 gx8 hp ρ g=>ahl ⟨x0,x1,x2,x3,x4,x5,x6,x7,x8⟩ ⟨gx0,gx1,gx2,gx3,gx5,gx6,gx7,gx8⟩ ρ g)
def gD (key:Nat):Sm:=⟨36,key,[.one (.int .i64),.agg kIns],[.one (.int .i64),.one .bool],true⟩
def gA (i:Int) (x:Ins):List Dt:=[.z ((itgt i x).1),.z (b2i ((itgt i x).2))]
def cv:List Dt→List Dt
 | [.z x0,.z x1,.z x2,.z x3,.z x4,.z x5,.z x6,.z x7,.z x8,.z x9]=>gA x0 ⟨x1,x2,x3,x4,(x5==1),x6,x7,x8,x9⟩
 | _=>[]
def sT_itgt:Tr:=
(.br (.eq (.var 1) (.lit 3))
(.call 0 [.bool] (.cons (.var 0) (.cons (.lit (-1099511627776)) (.cons (.lit 1099511627776) .nil))) 10
(.br (.bvar 10)
(.call 0 [.bool] (.cons (.var 8) (.cons (.lit (-1099511627776)) (.cons (.lit 1099511627776) .nil))) 11
(.br (.bvar 11)
(.leaf (.cons (.bin .add .i64 (.bin .add .i64 (.var 0) (.lit 1)) (.var 8)) (.consb (.tt true) .nil)))
(.leaf (.cons (.lit 0) (.consb (.tt false) .nil)))))
(.leaf (.cons (.lit 0) (.consb (.tt false) .nil)))))
(.br (.eq (.var 1) (.lit 4))
(.call 0 [.bool] (.cons (.var 0) (.cons (.lit (-1099511627776)) (.cons (.lit 1099511627776) .nil))) 10
(.br (.bvar 10)
(.call 0 [.bool] (.cons (.var 8) (.cons (.lit (-1099511627776)) (.cons (.lit 1099511627776) .nil))) 11
(.br (.bvar 11)
(.leaf (.cons (.bin .add .i64 (.bin .add .i64 (.var 0) (.lit 1)) (.var 8)) (.consb (.tt true) .nil)))
(.leaf (.cons (.lit 0) (.consb (.tt false) .nil)))))
(.leaf (.cons (.lit 0) (.consb (.tt false) .nil)))))
(.leaf (.cons (.lit 0) (.consb (.tt false) .nil)))))
def abB:Spec:={F:=fun k=>match k with | 0=>dR | _=>fun _=>[],pre:=fun k=>match k with | _=>fun _=>True}
set_option maxRecDepth 100000 in
theorem aia:am tys_LiB [lC 0] [] [] [] 200 Tryz.f36 [.one (.int .i64),.agg kIns] [.one (.int .i64),.one .bool] true [.int .i64,.int .i8,.int .i8,.int .i8,.int .i8,.bool,.int .i8,.int .i8,.int .i64,.int .i64] sT_itgt:=⟨by kernel_rfl,by kernel_rfl,by kernel_rfl⟩
set_option maxRecDepth 100000 in
set_option maxHeartbeats 8000000 in
theorem ahA (i:Int) (hi:inK .i64 i=true) (x:Ins) (hx:Ins.ok x) (ρ:Env) (g:af ρ 0 [.int .i64,.int .i8,.int .i8,.int .i8,.int .i8,.bool,.int .i8,.int .i8,.int .i64,.int .i64]=[.z i,.z x.k,.z x.op,.z x.w,.z x.sz,.z (b2i x.br),.z x.d,.z x.s,.z x.off,.z x.imm]):sT_itgt.asks abB (fun ρ e=>e.D ρ=cv [.z i,.z x.k,.z x.op,.z x.w,.z x.sz,.z (b2i x.br),.z x.d,.z x.s,.z x.off,.z x.imm]) ρ fun _ _=>False:=by
 simp only[af,varD,List.cons.injEq,Dt.z.injEq,Dt.l.injEq,b2i_eq_iff,Nat.reduceAdd,and_true] at g
 simp only[sT_itgt,abB,dR,ln,cv,gA,Tr.asks,ai,okDs,okD,eqs,E.I,E.B,E.L,E.R,E.D,E.vs,E.gs,E.ins,E.sv,E.tn,E.iv,E.zs,E.pv,Nat.reduceSub,dI,dB,dL,varD,af,S1,Nat.reduceAdd,-eq_self,Ins.eta,Prog.eta,aa,g]
 constructor<;>intro c0
 intro e; (try simp only[e,Ins.eta,Prog.eta,aa,-eq_self]); clear e
 constructor<;>intro c1
 intro e; (try simp only[e,Ins.eta,Prog.eta,aa,-eq_self]); clear e
 constructor<;>intro c2
 ·rw[agn (.inl (eqI c0)) c1 c2]; try rfl
 ·rw[ago c2]; try rfl
 ·rw[agp c1]; try rfl
 constructor<;>intro c3
 intro e; (try simp only[e,Ins.eta,Prog.eta,aa,-eq_self]); clear e
 constructor<;>intro c4
 intro e; (try simp only[e,Ins.eta,Prog.eta,aa,-eq_self]); clear e
 constructor<;>intro c5
 ·rw[agn (.inr (eqI c3)) c4 c5]; try rfl
 ·rw[ago c5]; try rfl
 ·rw[agp c4]; try rfl
 ·rw[acL c0 c3]; try rfl
theorem lH {sp:Spec} {key:Nat} (hF:sp.F key=cv) (hP:sp.pre key=fun _=>True:=by rfl):SmOk Tryz.prog sp (gD key):=
 an (s:=gD key) hF hP (by kernel_rfl) cV (smc (rh rfl) sm0) Tryz.func36 fn0 aia (.inl rfl) (fun x0 gx0 x1 gx1 x2 gx2 x3 gx3 x4 gx4 x5 x6 gx6 x7 gx7 x8 gx8 x9 gx9 hp ρ g=>ahA x0 gx0 ⟨x1,x2,x3,x4,x5,x6,x7,x8,x9⟩ ⟨gx1,gx2,gx3,gx4,gx6,gx7,gx8,gx9⟩ ρ g)
def pj (key:Nat):Sm:=⟨41,key,[.one (.int .i64)],[.one (.int .i64)],false⟩
def oQ (n:Int):List Dt:=[.z (uv n)]
def iH:List Dt→List Dt
 | [.z x0]=>oQ x0
 | _=>[]
def sT_iargs:Tr:=
(.call 0 [.bool] (.cons (.var 0) (.cons (.lit 0) (.cons (.lit 15) .nil))) 1
(.br (.bvar 1)
(.leaf (.cons (.bin .rem .i64 (.var 0) (.lit 6)) .nil))
(.leaf (.cons (.lit 0) .nil))))
def vL:Spec:={F:=fun k=>match k with | 0=>dR | _=>fun _=>[],pre:=fun k=>match k with | _=>fun _=>True}
set_option maxRecDepth 100000 in
theorem aeB:am tys_LiB [lC 0] [] [] [] 200 Tryz.f41 [.one (.int .i64)] [.one (.int .i64)] false [.int .i64] sT_iargs:=⟨by kernel_rfl,by kernel_rfl,by kernel_rfl⟩
set_option maxRecDepth 100000 in
set_option maxHeartbeats 8000000 in
theorem aeh (n:Int) (hn:inK .i64 n=true) (ρ:Env) (g:af ρ 0 [.int .i64]=[.z n]):sT_iargs.asks vL (fun ρ e=>e.D ρ=iH [.z n]) ρ fun _ _=>False:=by
 simp only[af,varD,List.cons.injEq,Dt.z.injEq,Dt.l.injEq,b2i_eq_iff,Nat.reduceAdd,and_true] at g
 simp only[sT_iargs,vL,dR,ln,iH,oQ,Tr.asks,ai,okDs,okD,eqs,E.I,E.B,E.L,E.R,E.D,E.vs,E.gs,E.ins,E.sv,E.tn,E.iv,E.zs,E.pv,Nat.reduceSub,dI,dB,dL,varD,af,S1,Nat.reduceAdd,-eq_self,Ins.eta,Prog.eta,aa,g]
 intro e; (try simp only[e,Ins.eta,Prog.eta,aa,-eq_self]); clear e
 constructor<;>intro c0
 ·rw[ajh c0]; try rfl
 ·rw[aji c0]; try rfl
theorem aeR {sp:Spec} {key:Nat} (hF:sp.F key=iH) (hP:sp.pre key=fun _=>True:=by rfl):SmOk Tryz.prog sp (pj key):=
 an (s:=pj key) hF hP (by kernel_rfl) cV (smc (rh rfl) sm0) Tryz.func41 fn0 aeB (.inl rfl) (fun x0 gx0 hp ρ g=>aeh x0 gx0 ρ g)
end Go.Proofs.YtfkhblmeioiciaaGreatDoor
