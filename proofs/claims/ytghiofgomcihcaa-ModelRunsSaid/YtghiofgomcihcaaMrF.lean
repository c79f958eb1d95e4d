import Derived.Test.YtghiofgomcihcaaMrD
import Derived.Test.YtghiofgomcihcaaMrZ
import Derived.Test.YtghiofgomcihcaaProg
import Derived.Laws.Externs
set_option linter.unusedVariables false
set_option linter.unusedSimpArgs false
namespace Go.Proofs.Ytghiofgomcihcaa
open Go.RowKit Go.ChangeShapes Go.WideShapes
def tys_MrF:List (Nat×TI):=[(3,⟨false,1,[.int .i64 (.lit 0)],[],none,some .i64,false,false,none,8,false,none,false,0⟩),
 (4,⟨false,1,[.bool (.tt false)],[],none,none,false,true,none,1,false,none,false,0⟩),
 (5,⟨false,1,[.int .u8 (.lit 0)],[],none,some .u8,false,false,none,1,false,none,false,0⟩),
 (22,⟨false,1,[.nsl],[],none,none,false,false,some 44,24,false,none,false,0⟩),
 (24,⟨true,2,[.int .i64 (.lit 0),.nsl],[(0,3),(1,22)],none,none,false,false,none,32,false,none,false,0⟩),
 (25,⟨false,1,[.nsl],[],none,none,false,false,some 5,24,false,none,false,0⟩),
 (26,⟨false,1,[.nsl],[],none,none,false,false,some 30,24,false,none,false,0⟩),
 (29,⟨false,1,[.int .i8 (.lit 0)],[],none,some .i8,false,false,none,1,false,none,false,0⟩),
 (30,⟨false,1,[.int .u64 (.lit 0)],[],none,some .u64,false,false,none,8,false,none,false,0⟩),
 (31,⟨false,1,[.nsl],[],none,none,false,false,some 39,24,false,none,false,0⟩),
 (33,⟨true,5,[.int .i8 (.lit 0),.int .u64 (.lit 0),.nsl,.nsl,.int .i64 (.lit 0)],[(0,29),(1,30),(2,25),(3,31),(4,3)],none,none,false,false,none,72,false,none,false,0⟩),
 (34,⟨false,1,[.int .i64 (.lit 0)],[],none,some .i64,false,false,none,8,false,none,false,0⟩),
 (39,⟨true,3,[.int .i64 (.lit 0),.nsl,.int .u64 (.lit 0)],[(0,3),(1,26),(2,30)],none,none,false,false,none,40,false,none,false,0⟩),
 (44,⟨true,9,[.int .i8 (.lit 0),.int .i8 (.lit 0),.int .i8 (.lit 0),.int .i8 (.lit 0),.bool (.tt false),.int .i8 (.lit 0),.int .i8 (.lit 0),.int .i64 (.lit 0),.int .i64 (.lit 0)],[(0,29),(1,29),(2,29),(3,29),(4,4),(5,29),(6,29),(7,3),(8,3)],none,none,true,false,none,24,false,none,false,0⟩),
 (46,⟨false,1,[.nsl],[],none,none,false,false,some 3,24,false,none,false,0⟩)]
set_option maxRecDepth 100000 in
theorem ve:(tys_MrF.all fun p=>ckTI Try.prog p.1 p.2)=true:=by kernel_rfl
theorem nK:(tys_MrF.all fun p=>!p.2.eqok||((Nat.beq p.1 44&&bp p.2.zero fP)))=true:=by kernel_rfl
theorem uQ:(tys_MrF.all fun p=>!p.2.keyok)=true:=by kernel_rfl
theorem nI:∀t i,(t,i)∈tys_MrF→TIok Try.prog t i:=by
 intro t i h
 refine ce (dN (f:=ckTI Try.prog) ve h) (fun he=> ?_) (fun he=> ?_) (fun he=> ?_)
 ·have h1:=List.all_eq_true.1 nK (t,i) h
  simp only[he,Bool.not_true,Bool.false_or,Bool.or_eq_true,Bool.and_eq_true] at h1
  have hs:=h1.2
  obtain rfl:=Nat.eq_of_beq_eq_true h1.1
  exact fun vs us hv hu=>fj vs us (ay hs hv) (ay hs hu)
 ·have h1:=List.all_eq_true.1 nK (t,i) h
  simp only[he,Bool.not_true,Bool.false_or,Bool.or_eq_true,Bool.and_eq_true] at h1
  have hs:=h1.2
  obtain rfl:=Nat.eq_of_beq_eq_true h1.1
  exact cV
 ·have h1:=List.all_eq_true.1 uQ (t,i) h
  simp[he] at h1
def mI (key:Nat):Sm:=⟨19,key,[.agg eZ,.one (.sl [some .u8] 5),.one (.sl [some .u64] 30),.one (.int .i64)],[.agg kOut,.one (.int .i64)],true⟩
def mA (p:Prog) (cx:List (List Int)) (an:List (List Int)) (fu:Int):List Dt:=[.z (((mrun p cx an fu).1).kind),.z (((mrun p cx an fu).1).r0),.l (((mrun p cx an fu).1).ctx),.l (((mrun p cx an fu).1).tr),.z (((mrun p cx an fu).1).left),.z ((mrun p cx an fu).2)]
def gi:List Dt→List Dt
 | [.z x0,.l x1,.l x2,.l x3,.z x4]=>mA ⟨x0,x1⟩ x2 x3 x4
 | _=>[]
def sT_jrun6:Tr:=
(.call 0 ([.sl [some .i64] 3]++[.sl [some .u64,some .u64,some .u64,some .u64,some .u64,some .u64,some .u64,some .u64,some .u64,some .u64,some .u64,some .i64,some .u8,some .u8,some .u8,some .u8,some .u8,some .u8,some .u8,some .u8,some .u8,some .u8,some .u8,some .u8,some .u8,some .u8,some .u8,some .u8,some .u8,some .u8,some .u8,some .u8,some .u8,some .u8,some .u8,some .u8,some .u8,some .u8,some .u8,some .u8,some .u8,some .u8,some .u8,some .u8,some .u8,some .u8,some .u8,some .u8,some .u8,some .u8,some .u8,some .u8,some .u8,some .u8,some .u8,some .u8,some .u8,some .u8,some .u8,some .u8,some .u8,some .u8,some .u8,some .u8,some .u8,some .u8,some .u8,some .u8,some .u8,some .u8,some .u8,some .u8,some .u8,some .u8,some .u8,some .u8] 56]++kOut++[.int .i64]) (.cons (.var 0) (.consl (.lvar 1) (.consl (.lvar 2) (.consl (.lvar 3) (.cons (.var 4) .nil))))) 5
(.leaf (.vs 7 2 (.consl (.lvar 9) (.consl (.lvar 10) (.vs 11 2 .nil))))))
def ru:Spec:=⟨fun k=>match k with | 0=>cA | _=>fun _=>[],fun k=>match k with | 0=>bR | _=>fun _=>True⟩
set_option maxRecDepth 100000 in
theorem zt:aD tys_MrF [gc 0] [] [] [] 200 Try.f19 [.agg eZ,.one (.sl [some .u8] 5),.one (.sl [some .u64] 30),.one (.int .i64)] [.agg kOut,.one (.int .i64)] true [.int .i64,.list [some .i8,some .i8,some .i8,some .i8,none,some .i8,some .i8,some .i64,some .i64],.list [some .u8],.list [some .u64],.int .i64] sT_jrun6:=⟨by kernel_rfl,by kernel_rfl,by kernel_rfl⟩
def eI:List Dt→Prop
 | [.z x0,.l x1,.l x2,.l x3,.z x4]=>let f (p:Prog) (cx:List (List Int)) (an:List (List Int)) (fu:Int):Prop:=(p.l.length≤maxLen∧cx.length≤maxLen)∧an.length≤maxLen; f ⟨x0,x1⟩ x2 x3 x4
 | _=>False
set_option maxRecDepth 100000 in
set_option maxHeartbeats 8000000 in
theorem zi (p:Prog) (hp:Prog.ok p) (cx:List (List Int)) (hcx:RowsIn [some .u8] cx) (an:List (List Int)) (han:RowsIn [some .u64] an) (fu:Int) (hfu:inK .i64 fu=true) (hp:eI [.z p.ctx,.l p.l,.l cx,.l an,.z fu]) (ρ:Env) (g:ah ρ 0 [.int .i64,.list [some .i8,some .i8,some .i8,some .i8,none,some .i8,some .i8,some .i64,some .i64],.list [some .u8],.list [some .u64],.int .i64]=[.z p.ctx,.l p.l,.l cx,.l an,.z fu]):sT_jrun6.asks ru (fun ρ e=>e.D ρ=gi [.z p.ctx,.l p.l,.l cx,.l an,.z fu]) ρ fun _ _=>False:=by
 simp only[eI,b2i_one,Ins.eta,Prog.eta,aa,Mem.eta,Mach.eta] at hp
 simp only[ah,varD,List.cons.injEq,Dt.z.injEq,Dt.l.injEq,b2i_eq_iff,Nat.reduceAdd,and_true] at g
 simp only[sT_jrun6,ru,kOut,cA,fX,gi,mA,bR,Tr.asks,aj,okDs,okD,eqs,E.I,E.B,E.L,E.R,E.D,E.vs,dI,dB,dL,varD,ah,List.getElem?_cons_zero,List.getElem?_cons_succ,List.cons_append,List.nil_append,Nat.zero_add,Nat.add_zero,Nat.reduceAdd,and_true,true_and,b2i_one,-eq_self,Ins.eta,Prog.eta,aa,Mem.eta,Mach.eta,g]
 refine⟨?_,?_⟩
 ·exact hp
 intro e; (try simp only[e,Ins.eta,Prog.eta,aa,Mem.eta,Mach.eta,-eq_self]); clear e
 ·rfl
theorem zB {sp:Spec} {key:Nat} (hF:sp.F key=gi) (hP:sp.pre key=eI):SmOk Try.prog sp (mI key):=
 aF (s:=mI key) hF hP (by kernel_rfl) nI (smc (oH rfl rfl) sm0) Try.func19 fn0 zt (.inr (.inl ⟨(fun xs h L hL=>by unfold eI at h; split at h<;>first | exact h.elim | (simp at hL; rcases hL with rfl | rfl | rfl; exact h.1.1; exact h.1.2; exact h.2)),rfl⟩)) (fun x0 gx0 x1 gx1 x2 gx2 x3 gx3 x4 gx4 hp ρ g=>zi ⟨x0,x1⟩ ⟨gx0,gx1⟩ x2 gx2 x3 gx3 x4 gx4 hp ρ g)
def mG (key:Nat):Sm:=⟨21,key,[.agg eZ,.one (.sl [some .u8] 5),.one (.sl [some .u64] 30),.one (.int .i64)],[.one (.sl [some .i64] 3)],false⟩
def my (p:Prog) (cx:List (List Int)) (an:List (List Int)) (fu:Int):List Dt:=[.l (ar p cx an fu)]
def gg:List Dt→List Dt
 | [.z x0,.l x1,.l x2,.l x3,.z x4]=>my ⟨x0,x1⟩ x2 x3 x4
 | _=>[]
def sT_jvis6:Tr:=
(.call 0 ([.sl [some .i64] 3]++[.sl [some .u64,some .u64,some .u64,some .u64,some .u64,some .u64,some .u64,some .u64,some .u64,some .u64,some .u64,some .i64,some .u8,some .u8,some .u8,some .u8,some .u8,some .u8,some .u8,some .u8,some .u8,some .u8,some .u8,some .u8,some .u8,some .u8,some .u8,some .u8,some .u8,some .u8,some .u8,some .u8,some .u8,some .u8,some .u8,some .u8,some .u8,some .u8,some .u8,some .u8,some .u8,some .u8,some .u8,some .u8,some .u8,some .u8,some .u8,some .u8,some .u8,some .u8,some .u8,some .u8,some .u8,some .u8,some .u8,some .u8,some .u8,some .u8,some .u8,some .u8,some .u8,some .u8,some .u8,some .u8,some .u8,some .u8,some .u8,some .u8,some .u8,some .u8,some .u8,some .u8,some .u8,some .u8,some .u8,some .u8] 56]++kOut++[.int .i64]) (.cons (.var 0) (.consl (.lvar 1) (.consl (.lvar 2) (.consl (.lvar 3) (.cons (.var 4) .nil))))) 5
(.br (.eq (.var 12) (.lit 0))
(.br (.lt (.len (.lvar 1)) (.lit 1073741824))
(.loop 0 13 [.int .i64,.list [some .i64]] (.cons (.lit 0) (.consl (.lrep (.len (.lvar 1)) (.cons (.lit 0) .nil)) .nil))
(.br (.lt (.var 13) (.len (.lvar 5)))
(.br (.lt (.var 13) (.lit 0))
.panic
(.br (.lt (.get (.lvar 5) (.var 13) 0) (.lit 0))
.panic
(.br (.lt (.get (.lvar 5) (.var 13) 0) (.len (.lvar 14)))
(.next 0 (.cons (.bin .add .i64 (.var 13) (.lit 1)) (.consl (.lset (.lvar 14) (.get (.lvar 5) (.var 13) 0) 0 (.bin .add .i64 (.get (.lvar 14) (.get (.lvar 5) (.var 13) 0) 0) (.lit 1))) .nil)))
.panic)))
(.leaf (.consl (.lvar 14) .nil))))
.panic)
(.leaf (.consl .lnil .nil))))
def rq:Spec:=⟨fun k=>match k with | 0=>cA | _=>fun _=>[],fun k=>match k with | 0=>bR | _=>fun _=>True⟩
set_option maxRecDepth 100000 in
theorem zq:aD tys_MrF [gc 0] [] [(6,[.tmpI 14 .i64,.row 9,.top 31,.top 32,.top 33,.top 34,.top 37,.top 38,.top 39,.top 40,.top 41,.top 42,.top 43,.top 44,.top 45,.top 35,.top 36])] [] 200 Try.f21 [.agg eZ,.one (.sl [some .u8] 5),.one (.sl [some .u64] 30),.one (.int .i64)] [.one (.sl [some .i64] 3)] false [.int .i64,.list [some .i8,some .i8,some .i8,some .i8,none,some .i8,some .i8,some .i64,some .i64],.list [some .u8],.list [some .u64],.int .i64] sT_jvis6:=⟨by kernel_rfl,by kernel_rfl,by kernel_rfl⟩
def eH:List Dt→Prop
 | [.z x0,.l x1,.l x2,.l x3,.z x4]=>let f (p:Prog) (cx:List (List Int)) (an:List (List Int)) (fu:Int):Prop:=(p.l.length≤maxLen∧cx.length≤maxLen)∧an.length≤maxLen; f ⟨x0,x1⟩ x2 x3 x4
 | _=>False
set_option maxRecDepth 100000 in
set_option maxHeartbeats 8000000 in
theorem zg (p:Prog) (hp:Prog.ok p) (cx:List (List Int)) (hcx:RowsIn [some .u8] cx) (an:List (List Int)) (han:RowsIn [some .u64] an) (fu:Int) (hfu:inK .i64 fu=true) (hp:eH [.z p.ctx,.l p.l,.l cx,.l an,.z fu]) (ρ:Env) (g:ah ρ 0 [.int .i64,.list [some .i8,some .i8,some .i8,some .i8,none,some .i8,some .i8,some .i64,some .i64],.list [some .u8],.list [some .u64],.int .i64]=[.z p.ctx,.l p.l,.l cx,.l an,.z fu]):sT_jvis6.asks rq (fun ρ e=>e.D ρ=gg [.z p.ctx,.l p.l,.l cx,.l an,.z fu]) ρ fun _ _=>False:=by
 simp only[eH,b2i_one,Ins.eta,Prog.eta,aa,Mem.eta,Mach.eta] at hp
 have keepg:=g
 simp only[ah,varD,List.cons.injEq,Dt.z.injEq,Dt.l.injEq,b2i_eq_iff,Nat.reduceAdd,and_true] at g
 simp only[sT_jvis6,rq,kOut,cA,fX,gg,my,bR,Tr.asks,aj,okDs,okD,eqs,E.I,E.B,E.L,E.R,E.D,E.vs,dI,dB,dL,varD,ah,List.getElem?_cons_zero,List.getElem?_cons_succ,List.cons_append,List.nil_append,Nat.zero_add,Nat.add_zero,Nat.reduceAdd,and_true,true_and,b2i_one,-eq_self,Ins.eta,Prog.eta,aa,Mem.eta,Mach.eta,g]
 obtain⟨k0_i0,k0_l1,k0_l2,k0_l3,k0_i4⟩:=g
 refine⟨?_,?_⟩
 ·exact hp
 intro e; have⟨k0_l5,_,_,_,_,_,_,k0_i12⟩:=e; (try simp only[e,Ins.eta,Prog.eta,aa,Mem.eta,Mach.eta,-eq_self]); clear e
 refine⟨fun c0=> ?_,fun c0=> ?_⟩
 refine⟨fun c1=> ?_,fun c1=> ?_⟩
 have ho:=xA (eqI c0)
 have hok:=(ir ho).1
 have hI:=bu hp.1.1 hok
 obtain⟨PL,hPL⟩:∃L,bL p fu.toNat (ms0 cx an)=L:=⟨_,rfl⟩
 have hin:∀i∈PL,0≤i∧i<(p.l.length:Int):=hPL▸kp hp.1.1 hok _ _ (Int.le_refl 0) (by have:=hI.1.2.1; show(0:Int)<_; omega)
 have hfu:=ir ho
 have hle:PL.length≤10000:=by have:=ko (p:=p) fu.toNat (ms0 cx an); rw[hPL] at this; omega
 have hat:(cE p cx an fu).1=kf PL:=by rw[ua ho,hPL]
 rw[hat] at k0_l5
 refine⟨fun ds=>∃k:Nat,ds=[.z (k:Int),.l ((PL.take k).foldl cntU (List.replicate (p.l.length:Int).toNat [0]))]∧k≤PL.length,fun ds=>PL.length-(dI ds 0).toNat,⟨0,rfl,Nat.zero_le _⟩,?_⟩
 intro ρ1 ha1 _ hi1
 obtain⟨k,hds,hk⟩:=hi1
 simp only[List.cons.injEq,Dt.z.injEq,Dt.l.injEq,b2i_eq_iff,and_true] at hds
 obtain⟨k1_i13,k1_l14⟩:=hds
 have hvl:((PL.take k).foldl cntU (List.replicate (p.l.length:Int).toNat [0])).length=p.l.length:=by rw[kG,List.length_replicate]; omega
 have k1_l1:=kL ha1 k0_l1
 have k1_l5:=kL ha1 k0_l5
 simp only[k1_l1,k1_l5,k1_i13,k1_l14,aa,tN,wU,-eq_self]
 refine⟨fun c2=> ?_,fun c2=> ?_⟩
 refine⟨fun c3=> ?_,fun c3=> ?_⟩
 ·have hk2:k<PL.length:=by have:=of_decide_eq_true c2; omega
  have hb:=hin (PL.getD k 0) (by rw[List.getD_eq_getElem?_getD,List.getElem?_eq_getElem hk2]; exact List.getElem_mem _)
  exact absurd (of_decide_eq_true c3) (by omega)
 refine⟨fun c4=> ?_,fun c4=> ?_⟩
 ·have hk2:k<PL.length:=by have:=of_decide_eq_true c2; omega
  have hb:=hin (PL.getD k 0) (by rw[List.getD_eq_getElem?_getD,List.getElem?_eq_getElem hk2]; exact List.getElem_mem _)
  exact absurd (of_decide_eq_true c4) (by omega)
 refine⟨fun c5=> ?_,fun c5=> ?_⟩
 ·have hk2:k<PL.length:=by have:=of_decide_eq_true c2; omega
  have hb:=hin (PL.getD k 0) (by rw[List.getD_eq_getElem?_getD,List.getElem?_eq_getElem hk2]; exact List.getElem_mem _)
  rw[addO hk2 (Nat.le_trans hle (by decide))]
  exact⟨⟨k+1,by rw[uh hk2]; rfl,hk2⟩,by show PL.length-(((k+1:Nat):Int)).toNat<PL.length-((k:Int)).toNat; omega⟩
 ·have hk2:k<PL.length:=by have:=of_decide_eq_true c2; omega
  have hb:=hin (PL.getD k 0) (by rw[List.getD_eq_getElem?_getD,List.getElem?_eq_getElem hk2]; exact List.getElem_mem _)
  exact absurd (of_decide_eq_false c5) (by omega)
 ·obtain rfl:k=PL.length:=by have:=of_decide_eq_false c2; omega
  rw[List.take_length,←hPL]
  unfold ar fS
  rw[if_neg (by simp[ho])]
 ·exact absurd (show(p.l.length:Int)<1073741824 by have:=(bu hp.1.1 (ir (xA (eqI c0))).1).1.2.2; omega) (of_decide_eq_false c1)
 ·rw[cp rfl (zS (neI c0))]
theorem zA {sp:Spec} {key:Nat} (hF:sp.F key=gg) (hP:sp.pre key=eH):SmOk Try.prog sp (mG key):=
 aF (s:=mG key) hF hP (by kernel_rfl) nI (smc (oH rfl rfl) sm0) Try.func21 fn0 zq (.inr (.inl ⟨(fun xs h L hL=>by unfold eH at h; split at h<;>first | exact h.elim | (simp at hL; rcases hL with rfl | rfl | rfl; exact h.1.1; exact h.1.2; exact h.2)),rfl⟩)) (fun x0 gx0 x1 gx1 x2 gx2 x3 gx3 x4 gx4 hp ρ g=>zg ⟨x0,x1⟩ ⟨gx0,gx1⟩ x2 gx2 x3 gx3 x4 gx4 hp ρ g)
end Go.Proofs.Ytghiofgomcihcaa
