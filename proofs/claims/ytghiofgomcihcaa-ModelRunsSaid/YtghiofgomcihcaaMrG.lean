import Derived.Test.YtghiofgomcihcaaMrF
import Derived.Test.YtghiofgomcihcaaMoX
import Derived.Test.YtghiofgomcihcaaLiQ
import Derived.Test.YtghiofgomcihcaaProg
import Derived.Laws.Externs
set_option linter.unusedVariables false
set_option linter.unusedSimpArgs false
namespace Go.Proofs.Ytghiofgomcihcaa
open Go.RowKit Go.ChangeShapes Go.WideShapes
theorem rwU8:Rw Try.prog 5 [some .u8]:=Rw.int .u8 Try.underlying5 (by kernel_rfl)
theorem adR:Rw Try.prog 30 [some .u64]:=Rw.int .u64 Try.underlying30 (by kernel_rfl)
def tys_MrG:List (Nat×TI):=[(3,⟨false,1,[.int .i64 (.lit 0)],[],none,some .i64,false,false,none,8,false,none,false,0⟩),
 (4,⟨false,1,[.bool (.tt false)],[],none,none,false,true,none,1,false,none,false,0⟩),
 (5,⟨false,1,[.int .u8 (.lit 0)],[],none,some .u8,false,false,none,1,false,none,false,0⟩),
 (22,⟨false,1,[.nsl],[],none,none,false,false,some 44,24,false,none,false,0⟩),
 (24,⟨true,2,[.int .i64 (.lit 0),.nsl],[(0,3),(1,22)],none,none,false,false,none,32,false,none,false,0⟩),
 (25,⟨false,1,[.nsl],[],none,none,false,false,some 5,24,false,none,false,0⟩),
 (26,⟨false,1,[.nsl],[],none,none,false,false,some 30,24,false,none,false,0⟩),
 (29,⟨false,1,[.int .i8 (.lit 0)],[],none,some .i8,false,false,none,1,false,none,false,0⟩),
 (30,⟨false,1,[.int .u64 (.lit 0)],[],none,some .u64,false,false,none,8,false,none,false,0⟩),
 (31,⟨false,1,[.nsl],[],none,none,false,false,some 39,24,false,none,false,0⟩),
 (33,⟨true,5,[.int .i8 (.lit 0),.int .u64 (.lit 0),.nsl,.nsl,.int .i64 (.lit 0)],[(0,29),(1,30),(2,25),(3,31),(4,3)],none,none,false,false,none,72,false,none,false,0⟩),
 (34,⟨false,1,[.int .i64 (.lit 0)],[],none,some .i64,false,false,none,8,false,none,false,0⟩),
 (39,⟨true,3,[.int .i64 (.lit 0),.nsl,.int .u64 (.lit 0)],[(0,3),(1,26),(2,30)],none,none,false,false,none,40,false,none,false,0⟩),
 (44,⟨true,9,[.int .i8 (.lit 0),.int .i8 (.lit 0),.int .i8 (.lit 0),.int .i8 (.lit 0),.bool (.tt false),.int .i8 (.lit 0),.int .i8 (.lit 0),.int .i64 (.lit 0),.int .i64 (.lit 0)],[(0,29),(1,29),(2,29),(3,29),(4,4),(5,29),(6,29),(7,3),(8,3)],none,none,true,false,none,24,false,none,false,0⟩),
 (46,⟨false,1,[.nsl],[],none,none,false,false,some 3,24,false,none,false,0⟩)]
set_option maxRecDepth 100000 in
theorem vd:(tys_MrG.all fun p=>ckTI Try.prog p.1 p.2)=true:=by kernel_rfl
theorem nJ:(tys_MrG.all fun p=>!p.2.eqok||((Nat.beq p.1 44&&bp p.2.zero fP)))=true:=by kernel_rfl
theorem uP:(tys_MrG.all fun p=>!p.2.keyok)=true:=by kernel_rfl
theorem uJ:∀t i,(t,i)∈tys_MrG→TIok Try.prog t i:=by
 intro t i h
 refine ce (dN (f:=ckTI Try.prog) vd h) (fun he=> ?_) (fun he=> ?_) (fun he=> ?_)
 ·have h1:=List.all_eq_true.1 nJ (t,i) h
  simp only[he,Bool.not_true,Bool.false_or,Bool.or_eq_true,Bool.and_eq_true] at h1
  have hs:=h1.2
  obtain rfl:=Nat.eq_of_beq_eq_true h1.1
  exact fun vs us hv hu=>fj vs us (ay hs hv) (ay hs hu)
 ·have h1:=List.all_eq_true.1 nJ (t,i) h
  simp only[he,Bool.not_true,Bool.false_or,Bool.or_eq_true,Bool.and_eq_true] at h1
  have hs:=h1.2
  obtain rfl:=Nat.eq_of_beq_eq_true h1.1
  exact cV
 ·have h1:=List.all_eq_true.1 uP (t,i) h
  simp[he] at h1
def rh (p:Prog) (cx:List (List Int)) (an:List (List Int)) (fu:Int):List Dt:=[.z (b2i true)]
def mM:List Dt→List Dt
 | [.z x0,.l x1,.l x2,.l x3,.z x4]=>rh ⟨x0,x1⟩ x2 x3 x4
 | _=>[]
def sT_lruns:Tr:=
(.br (.lt (.lit 100) (.len (.lvar 1)))
(.call 5 [.bool] .nil 5
(.leaf (.consb (.bvar 5) .nil)))
(.br (.lt (.lit 400) (.len (.lvar 2)))
(.call 5 [.bool] .nil 5
(.leaf (.consb (.bvar 5) .nil)))
(.br (.lt (.lit 400) (.len (.lvar 3)))
(.call 5 [.bool] .nil 5
(.leaf (.consb (.bvar 5) .nil)))
(.br (.lt (.lit 2000) (.var 4))
(.br (.lt (.lit 10000) (.var 4))
(.call 0 (kOut++[.int .i64]) (.cons (.var 0) (.consl (.lvar 1) (.consl (.lvar 2) (.consl (.lvar 3) (.cons (.var 4) .nil))))) 5
(.call 2 (kOut++[.int .i64]) (.cons (.var 0) (.consl (.lvar 1) (.consl (.lvar 2) (.consl (.lvar 3) (.cons (.var 4) .nil))))) 11
(.call 1 [.sl [some .i64] 3] (.cons (.var 0) (.consl (.lvar 1) (.consl (.lvar 2) (.consl (.lvar 3) (.cons (.var 4) .nil))))) 17
(.call 3 [.sl [some .i64] 3] (.cons (.var 0) (.consl (.lvar 1) (.consl (.lvar 2) (.consl (.lvar 3) (.cons (.var 4) .nil))))) 18
(.br (.eq (.len (.lvar 17)) (.len (.lvar 18)))
(.loop 0 19 [.int .i64] (.cons (.lit 0) .nil)
(.br (.lt (.var 19) (.len (.lvar 17)))
(.br (.lt (.var 19) (.lit 0))
.panic
(.br (.lt (.var 19) (.len (.lvar 18)))
(.br (.eq (.get (.lvar 17) (.var 19) 0) (.get (.lvar 18) (.var 19) 0))
(.next 0 (.cons (.bin .add .i64 (.var 19) (.lit 1)) .nil))
(.leaf (.consb (.tt false) .nil)))
.panic))
(.call 4 [.bool] (.vs 5 2 (.consl (.lvar 7) (.consl (.lvar 8) (.cons (.var 9) (.vs 11 2 (.consl (.lvar 13) (.consl (.lvar 14) (.cons (.var 15) .nil)))))))) 20
(.br (.bvar 20)
(.br (.eq (.var 10) (.var 16))
(.call 5 [.bool] .nil 21
(.leaf (.consb (.bvar 21) .nil)))
(.leaf (.consb (.tt false) .nil)))
(.leaf (.consb (.tt false) .nil))))))
(.leaf (.consb (.tt false) .nil)))))))
(.call 5 [.bool] .nil 5
(.leaf (.consb (.bvar 5) .nil))))
(.call 0 (kOut++[.int .i64]) (.cons (.var 0) (.consl (.lvar 1) (.consl (.lvar 2) (.consl (.lvar 3) (.cons (.var 4) .nil))))) 5
(.call 2 (kOut++[.int .i64]) (.cons (.var 0) (.consl (.lvar 1) (.consl (.lvar 2) (.consl (.lvar 3) (.cons (.var 4) .nil))))) 11
(.call 1 [.sl [some .i64] 3] (.cons (.var 0) (.consl (.lvar 1) (.consl (.lvar 2) (.consl (.lvar 3) (.cons (.var 4) .nil))))) 17
(.call 3 [.sl [some .i64] 3] (.cons (.var 0) (.consl (.lvar 1) (.consl (.lvar 2) (.consl (.lvar 3) (.cons (.var 4) .nil))))) 18
(.br (.eq (.len (.lvar 17)) (.len (.lvar 18)))
(.loop 0 19 [.int .i64] (.cons (.lit 0) .nil)
(.br (.lt (.var 19) (.len (.lvar 17)))
(.br (.lt (.var 19) (.lit 0))
.panic
(.br (.lt (.var 19) (.len (.lvar 18)))
(.br (.eq (.get (.lvar 17) (.var 19) 0) (.get (.lvar 18) (.var 19) 0))
(.next 0 (.cons (.bin .add .i64 (.var 19) (.lit 1)) .nil))
(.leaf (.consb (.tt false) .nil)))
.panic))
(.call 4 [.bool] (.vs 5 2 (.consl (.lvar 7) (.consl (.lvar 8) (.cons (.var 9) (.vs 11 2 (.consl (.lvar 13) (.consl (.lvar 14) (.cons (.var 15) .nil)))))))) 20
(.br (.bvar 20)
(.br (.eq (.var 10) (.var 16))
(.call 5 [.bool] .nil 21
(.leaf (.consb (.bvar 21) .nil)))
(.leaf (.consb (.tt false) .nil)))
(.leaf (.consb (.tt false) .nil))))))
(.leaf (.consb (.tt false) .nil)))))))))))
def rm:Spec:=⟨fun k=>match k with | 0=>fz | 1=>dc | 2=>gi | 3=>gg | 4=>gk | 5=>dX | _=>fun _=>[],fun k=>match k with | 0=>dU | 1=>cn | 2=>eI | 3=>eH | _=>fun _=>True⟩
set_option maxRecDepth 100000 in
theorem zo:aD tys_MrG [mE 0,hG 1,mI 2,mG 3,mK 4,jO 5] [(9,Try.f9,[],[])] [(9,[.tmpI 15 .i64,.top 53,.top 54,.top 55,.top 56,.top 59,.top 60,.top 61,.top 62,.top 63,.top 64,.top 65,.top 66,.top 67,.top 8,.top 57,.top 58]),(999999,[])] [] 200 Try.f7 [.agg eZ,.one (.sl [some .u8] 5),.one (.sl [some .u64] 30),.one (.int .i64)] [.one .bool] false [.int .i64,.list [some .i8,some .i8,some .i8,some .i8,none,some .i8,some .i8,some .i64,some .i64],.list [some .u8],.list [some .u64],.int .i64] sT_lruns:=⟨by kernel_rfl,by kernel_rfl,by kernel_rfl⟩
set_option maxRecDepth 100000 in
set_option maxHeartbeats 8000000 in
theorem ze (p:Prog) (hp:Prog.ok p) (cx:List (List Int)) (hcx:RowsIn [some .u8] cx) (an:List (List Int)) (han:RowsIn [some .u64] an) (fu:Int) (hfu:inK .i64 fu=true) (ρ:Env) (g:ah ρ 0 [.int .i64,.list [some .i8,some .i8,some .i8,some .i8,none,some .i8,some .i8,some .i64,some .i64],.list [some .u8],.list [some .u64],.int .i64]=[.z p.ctx,.l p.l,.l cx,.l an,.z fu]):sT_lruns.asks rm (fun ρ e=>e.D ρ=mM [.z p.ctx,.l p.l,.l cx,.l an,.z fu]) ρ fun _ _=>False:=by
 have keepg:=g
 simp only[ah,varD,List.cons.injEq,Dt.z.injEq,Dt.l.injEq,b2i_eq_iff,Nat.reduceAdd,and_true] at g
 simp only[sT_lruns,rm,kOut,fz,dc,gi,gg,gk,dX,mu,gW,mA,my,mC,mM,rh,dU,cn,eI,eH,Tr.asks,aj,okDs,okD,eqs,E.I,E.B,E.L,E.R,E.D,E.vs,dI,dB,dL,varD,ah,List.getElem?_cons_zero,List.getElem?_cons_succ,List.cons_append,List.nil_append,Nat.zero_add,Nat.add_zero,Nat.reduceAdd,and_true,true_and,b2i_one,-eq_self,Ins.eta,Prog.eta,aa,Mem.eta,Mach.eta,g]
 obtain⟨k0_i0,k0_l1,k0_l2,k0_l3,k0_i4⟩:=g
 refine⟨fun c0=> ?_,fun c0=> ?_⟩
 intro e; (try simp only[e,Ins.eta,Prog.eta,aa,Mem.eta,Mach.eta,-eq_self]); clear e
 ·rfl
 refine⟨fun c1=> ?_,fun c1=> ?_⟩
 intro e; (try simp only[e,Ins.eta,Prog.eta,aa,Mem.eta,Mach.eta,-eq_self]); clear e
 ·rfl
 refine⟨fun c2=> ?_,fun c2=> ?_⟩
 intro e; (try simp only[e,Ins.eta,Prog.eta,aa,Mem.eta,Mach.eta,-eq_self]); clear e
 ·rfl
 refine⟨fun c3=> ?_,fun c3=> ?_⟩
 refine⟨fun c4=> ?_,fun c4=> ?_⟩
 refine⟨?_,?_⟩
 ·exact⟨⟨hp.2.len,hcx.len⟩,han.len⟩
 intro e; have⟨k0_i5,k0_i6,k0_l7,k0_l8,k0_i9,k0_i10⟩:=e; (try simp only[e,Ins.eta,Prog.eta,aa,Mem.eta,Mach.eta,-eq_self]); clear e
 refine⟨?_,?_⟩
 ·exact⟨⟨hp.2.len,hcx.len⟩,han.len⟩
 intro e; have⟨k0_i11,k0_i12,k0_l13,k0_l14,k0_i15,k0_i16⟩:=e; (try simp only[e,Ins.eta,Prog.eta,aa,Mem.eta,Mach.eta,-eq_self]); clear e
 refine⟨?_,?_⟩
 ·exact⟨⟨hp.2.len,hcx.len⟩,han.len⟩
 intro e; have k0_l17:ρ.l 17=ar p cx an fu:=e; (try simp only[e,Ins.eta,Prog.eta,aa,Mem.eta,Mach.eta,-eq_self]); clear e
 refine⟨?_,?_⟩
 ·exact⟨⟨hp.2.len,hcx.len⟩,han.len⟩
 intro e; have k0_l18:ρ.l 18=ar p cx an fu:=e; (try simp only[e,Ins.eta,Prog.eta,aa,Mem.eta,Mach.eta,-eq_self]); clear e
 refine⟨fun c5=> ?_,fun c5=> ?_⟩
 refine⟨fun ds=>∃n:Nat,ds=[.z (n:Int)]∧n≤(ar p cx an fu).length,fun ds=>(ar p cx an fu).length-(dI ds 0).toNat,⟨0,rfl,Nat.zero_le _⟩,?_⟩
 intro ρ1 ha1 _ hi1
 obtain⟨n,hds,hn⟩:=hi1
 simp only[List.cons.injEq,Dt.z.injEq,Dt.l.injEq,b2i_eq_iff,and_true] at hds
 have k1_i19:=hds
 have k1_i5:=kI ha1 k0_i5
 have k1_i6:=kI ha1 k0_i6
 have k1_l7:=kL ha1 k0_l7
 have k1_l8:=kL ha1 k0_l8
 have k1_i9:=kI ha1 k0_i9
 have k1_i10:=kI ha1 k0_i10
 have k1_i11:=kI ha1 k0_i11
 have k1_i12:=kI ha1 k0_i12
 have k1_l13:=kL ha1 k0_l13
 have k1_l14:=kL ha1 k0_l14
 have k1_i15:=kI ha1 k0_i15
 have k1_i16:=kI ha1 k0_i16
 have k1_l17:=kL ha1 k0_l17
 have k1_l18:=kL ha1 k0_l18
 simp only[k1_i5,k1_i6,k1_l7,k1_l8,k1_i9,k1_i10,k1_i11,k1_i12,k1_l13,k1_l14,k1_i15,k1_i16,k1_l17,k1_l18,k1_i19,aa,-eq_self]
 refine⟨fun c6=> ?_,fun c6=> ?_⟩
 refine⟨fun c7=> ?_,fun c7=> ?_⟩
 ·exact absurd (of_decide_eq_true c7) (by have:=of_decide_eq_true c6; omega)
 refine⟨fun c8=> ?_,fun c8=> ?_⟩
 refine⟨fun c9=> ?_,fun c9=> ?_⟩
 ·have hn2:n<(ar p cx an fu).length:=by have:=of_decide_eq_true c6; omega
  rw[addO hn2 (Nat.le_trans lB hp.2.len)]
  exact⟨⟨n+1,rfl,hn2⟩,by show(ar p cx an fu).length-(((n+1:Nat):Int)).toNat<(ar p cx an fu).length-((n:Int)).toNat; omega⟩
 ·exact absurd rfl (neI c9)
 ·exact absurd (of_decide_eq_false c8) (by have:=of_decide_eq_true c6; omega)
 intro e; (try simp only[e,Ins.eta,Prog.eta,aa,Mem.eta,Mach.eta,-eq_self]); clear e
 refine⟨fun c10=> ?_,fun c10=> ?_⟩
 refine⟨fun c11=> ?_,fun c11=> ?_⟩
 intro e; (try simp only[e,Ins.eta,Prog.eta,aa,Mem.eta,Mach.eta,-eq_self]); clear e
 ·rfl
 ·exact absurd rfl (neI c11)
 ·exact Bool.noConfusion ((lT (mrun p cx an fu).1).symm.trans c10)
 ·exact absurd rfl (neI c5)
 intro e; (try simp only[e,Ins.eta,Prog.eta,aa,Mem.eta,Mach.eta,-eq_self]); clear e
 ·rfl
 refine⟨?_,?_⟩
 ·exact⟨⟨hp.2.len,hcx.len⟩,han.len⟩
 intro e; have⟨k0_i5,k0_i6,k0_l7,k0_l8,k0_i9,k0_i10⟩:=e; (try simp only[e,Ins.eta,Prog.eta,aa,Mem.eta,Mach.eta,-eq_self]); clear e
 refine⟨?_,?_⟩
 ·exact⟨⟨hp.2.len,hcx.len⟩,han.len⟩
 intro e; have⟨k0_i11,k0_i12,k0_l13,k0_l14,k0_i15,k0_i16⟩:=e; (try simp only[e,Ins.eta,Prog.eta,aa,Mem.eta,Mach.eta,-eq_self]); clear e
 refine⟨?_,?_⟩
 ·exact⟨⟨hp.2.len,hcx.len⟩,han.len⟩
 intro e; have k0_l17:ρ.l 17=ar p cx an fu:=e; (try simp only[e,Ins.eta,Prog.eta,aa,Mem.eta,Mach.eta,-eq_self]); clear e
 refine⟨?_,?_⟩
 ·exact⟨⟨hp.2.len,hcx.len⟩,han.len⟩
 intro e; have k0_l18:ρ.l 18=ar p cx an fu:=e; (try simp only[e,Ins.eta,Prog.eta,aa,Mem.eta,Mach.eta,-eq_self]); clear e
 refine⟨fun c12=> ?_,fun c12=> ?_⟩
 refine⟨fun ds=>∃n:Nat,ds=[.z (n:Int)]∧n≤(ar p cx an fu).length,fun ds=>(ar p cx an fu).length-(dI ds 0).toNat,⟨0,rfl,Nat.zero_le _⟩,?_⟩
 intro ρ1 ha1 _ hi1
 obtain⟨n,hds,hn⟩:=hi1
 simp only[List.cons.injEq,Dt.z.injEq,Dt.l.injEq,b2i_eq_iff,and_true] at hds
 have k1_i19:=hds
 have k1_i5:=kI ha1 k0_i5
 have k1_i6:=kI ha1 k0_i6
 have k1_l7:=kL ha1 k0_l7
 have k1_l8:=kL ha1 k0_l8
 have k1_i9:=kI ha1 k0_i9
 have k1_i10:=kI ha1 k0_i10
 have k1_i11:=kI ha1 k0_i11
 have k1_i12:=kI ha1 k0_i12
 have k1_l13:=kL ha1 k0_l13
 have k1_l14:=kL ha1 k0_l14
 have k1_i15:=kI ha1 k0_i15
 have k1_i16:=kI ha1 k0_i16
 have k1_l17:=kL ha1 k0_l17
 have k1_l18:=kL ha1 k0_l18
 simp only[k1_i5,k1_i6,k1_l7,k1_l8,k1_i9,k1_i10,k1_i11,k1_i12,k1_l13,k1_l14,k1_i15,k1_i16,k1_l17,k1_l18,k1_i19,aa,-eq_self]
 refine⟨fun c13=> ?_,fun c13=> ?_⟩
 refine⟨fun c14=> ?_,fun c14=> ?_⟩
 ·exact absurd (of_decide_eq_true c14) (by have:=of_decide_eq_true c13; omega)
 refine⟨fun c15=> ?_,fun c15=> ?_⟩
 refine⟨fun c16=> ?_,fun c16=> ?_⟩
 ·have hn2:n<(ar p cx an fu).length:=by have:=of_decide_eq_true c13; omega
  rw[addO hn2 (Nat.le_trans lB hp.2.len)]
  exact⟨⟨n+1,rfl,hn2⟩,by show(ar p cx an fu).length-(((n+1:Nat):Int)).toNat<(ar p cx an fu).length-((n:Int)).toNat; omega⟩
 ·exact absurd rfl (neI c16)
 ·exact absurd (of_decide_eq_false c15) (by have:=of_decide_eq_true c13; omega)
 intro e; (try simp only[e,Ins.eta,Prog.eta,aa,Mem.eta,Mach.eta,-eq_self]); clear e
 refine⟨fun c17=> ?_,fun c17=> ?_⟩
 refine⟨fun c18=> ?_,fun c18=> ?_⟩
 intro e; (try simp only[e,Ins.eta,Prog.eta,aa,Mem.eta,Mach.eta,-eq_self]); clear e
 ·rfl
 ·exact absurd rfl (neI c18)
 ·exact Bool.noConfusion ((lT (mrun p cx an fu).1).symm.trans c17)
 ·exact absurd rfl (neI c12)
theorem zE (xs:List Dt) (vals:List Value) (w:World) (hw:iV w [.agg eZ,.one (.sl [some .u8] 5),.one (.sl [some .u64] 30),.one (.int .i64)] xs vals):Calls Try.prog 7 vals.toArray w fun e w'=>∃v,e=.returned v∧RetOk [.one .bool] false w w' (mM xs) v:=
 (pi (by kernel_rfl) uJ (smc (wI rfl rfl) (smc (tJ rfl rfl) (smc (zB rfl rfl) (smc (zA rfl rfl) (smc (zD rfl) (smc (wK rfl) sm0)))))) Try.func7 (fnc Try.func9 fn0) zo (pre:=fun _=>True) (fun x0 gx0 x1 gx1 x2 gx2 x3 gx3 x4 gx4 hp ρ g=>ze ⟨x0,x1⟩ ⟨gx0,gx1⟩ x2 gx2 x3 gx3 x4 gx4 ρ g) xs vals w hw trivial).2
set_option maxRecDepth 100000 in
set_option maxHeartbeats 8000000 in
theorem nh {H:Type} {enc:TypeId×Value→H} {W:World} {r:Reach} {b0:Nat} (v0:Value) (k0:Value.okWide Try.prog W r b0 24 v0) (d0:DataW H) (p0:List MemPlace) (h0:DataW.Trod enc Try.prog W 0 (fun _=>true) true 24 v0 d0 p0) (_:∀x∈p0,x.block<W.heap.size) (v1:Value) (k1:Value.okWide Try.prog W r b0 25 v1) (d1:DataW H) (p1:List MemPlace) (h1:DataW.Trod enc Try.prog W 0 (fun _=>true) true 25 v1 d1 p1) (_:∀x∈p1,x.block<W.heap.size) (v2:Value) (k2:Value.okWide Try.prog W r b0 26 v2) (d2:DataW H) (p2:List MemPlace) (h2:DataW.Trod enc Try.prog W 0 (fun _=>true) true 26 v2 d2 p2) (_:∀x∈p2,x.block<W.heap.size) (a3:Int) (w3:(Lit.int .i64 a3).wf=true):
  Calls Try.prog 7 #[v0,v1,v2,.int .i64 a3] W fun e W'=>e=.returned (.bool true)∧Below W.heap.size W W':=by
 obtain⟨a0,q0,s0,rfl,w0,n0,m0,o0,l0⟩:=Prog.of_arg k0 h0
 obtain⟨q1,s1,rfl,n1,m1,o1,l1⟩:=ot rwU8 (by decide) Try.underlying25 k1 h1
 obtain⟨q2,s2,rfl,n2,m2,o2,l2⟩:=ot adR (by decide) Try.underlying26 k2 h2
 refine(zE (.z a0::(.l q0::(.l q1::(.l q2::(.z a3::([])))))) _ W ⟨_,_,_,rfl,⟨_,_,_,rfl,⟨_,rfl,rfl,w0⟩,⟨_,_,_,rfl,⟨_,_,rfl,rfl,n0,m0,o0,l0⟩,⟨rfl,rfl⟩⟩⟩,⟨_,_,_,rfl,⟨_,_,rfl,rfl,n1,m1,o1,l1⟩,⟨_,_,_,rfl,⟨_,_,rfl,rfl,n2,m2,o2,l2⟩,⟨_,_,_,rfl,⟨_,rfl,rfl,(ph w3)⟩,⟨rfl,rfl⟩⟩⟩⟩⟩).mono fun e W' ⟨v,he,hr⟩=> ?_
 have hv:v=.bool true:=RetOk.says hr
 rw[he,hv]
 exact⟨rfl,hr.ext⟩
end Go.Proofs.Ytghiofgomcihcaa
