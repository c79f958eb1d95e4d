import Derived.Test.YtfkhblmeioiciaaGreatDoorSdB
import Derived.Test.YtfkhblmeioiciaaGreatDoorProg
import Derived.Laws.Externs
set_option maxRecDepth 100000
set_option maxHeartbeats 8000000
set_option linter.unusedVariables false
set_option linter.unusedSimpArgs false
namespace Go.Proofs.YtfkhblmeioiciaaGreatDoor
open Go.RowKit Go.ChangeShapes Go.WideShapes
def tys_SdC:List (Nat×TI):=[(2,⟨false,1,[.int .i64 (.lit 0)],[],none,some .i64,false,false,none,8,false,none,false,0⟩),
 (3,⟨false,1,[.int .i64 (.lit 0)],[],none,some .i64,false,false,none,8,false,none,false,0⟩),
 (37,⟨false,1,[.int .i8 (.lit 0)],[],none,some .i8,false,false,none,1,false,none,false,0⟩),
 (42,⟨false,1,[.int .u64 (.lit 0)],[],none,some .u64,false,false,none,8,false,none,false,0⟩),
 (44,⟨true,4,(zN 4 2211),[(0,42),(1,42),(2,2),(3,2)],none,none,false,false,none,32,false,none,false,0⟩),
 (46,⟨true,2,[.int .u64 (.lit 0),.int .u64 (.lit 0)],[(0,42),(1,42)],none,none,false,false,none,16,false,none,false,0⟩),
 (48,⟨true,6,(zN 6 112211),[(0,44),(4,46)],none,none,false,false,none,48,false,none,false,0⟩),
 (50,⟨true,9,(zN 9 221122110),[(0,37),(1,48),(7,3),(8,3)],none,none,false,false,none,72,false,none,false,0⟩),
 (51,⟨true,99,(zN 99 221122110221122110221122110221122110221122110221122110221122110221122110221122110221122110221122110),[],some (11,50),none,false,false,none,792,false,none,false,0⟩),
 (52,⟨true,72,(zN 72 221122110221122110221122110221122110221122110221122110221122110221122110),[],some (8,50),none,false,false,none,576,false,none,false,0⟩),
 (54,⟨true,171,(zN 171 221122110221122110221122110221122110221122110221122110221122110221122110221122110221122110221122110221122110221122110221122110221122110221122110221122110221122110221122110),[(0,51),(99,52)],none,none,false,false,none,1368,false,none,false,0⟩)]
theorem acx:(tys_SdC.all fun p=>ckTI Tryz.prog p.1 p.2)=true:=by kernel_rfl
theorem td:(tys_SdC.all fun p=>!p.2.eqok)=true:=by kernel_rfl
theorem acd:(tys_SdC.all fun p=>!p.2.keyok)=true:=by kernel_rfl
theorem cV:∀t i,(t,i)∈tys_SdC->TIok Tryz.prog t i:=by
 intro t i h
 refine bC (cz (f:=ckTI Tryz.prog) acx h) (fun he=> ?_) (fun he=> ?_) (fun he=> ?_)
 ·have h1:=thm7.1 td (t,i) h
  simp[he] at h1
 ·have h1:=thm7.1 td (t,i) h
  simp[he] at h1
 ·have h1:=thm7.1 acd (t,i) h
  simp[he] at h1
def mX (key:Nat):Sm:=⟨90,key,[.agg kTy,.agg kTy,.one (.fn 91),.one .bool],[.agg kTy],false⟩
def mC (a:Ty) (b:Ty) (t:Bool):List Dt:=d_Ty (ez false t a b) ([])
def fR:List Dt->List Dt
 | [.z x0,.z x1,.z x2,.z x3,.z x4,.z x5,.z x6,.z x7,.z x8,.z x9,.z x10,.z x11,.z x12,.z x13,.z x14,.z x15,.z x16,.z x17,.z x18]=>mC ⟨x0,x1,x2,x3,x4,x5,x6,x7,x8⟩ ⟨x9,x10,x11,x12,x13,x14,x15,x16,x17⟩ (x18==1)
 | _=>[]
def sT_tjjoin:Tr:=
(.br (.eq (.var 0) (.lit 0))
(.leaf (.zs [0,0,0,0,0,0,0,0,0] .nil))
(.br (.eq (.var 9) (.lit 0))
(.leaf (.zs [0,0,0,0,0,0,0,0,0] .nil))
(.br (.eq (.var 0) (.var 9))
(.br (.eq (.var 0) (.lit 1))
(.call 1 (kSc) (.vs 1 6 (.vs 10 6 .nil)) 19
(.leaf (.cons (.var 0) (.vs 19 6 (.cons (.lit 0) (.cons (.lit 0) .nil))))))
(.br (.bvar 18)
(.br (.lt (.mn (.var 7) (.var 16)) (.var 7))
(.br (.lt (.var 8) (.mx (.var 8) (.var 17)))
(.leaf (.cons (.var 0) (.zs [0,0,0,0,0,0,-1048576,1048576] .nil)))
(.leaf (.cons (.var 0) (.zs [0,0,0,0,0,0,-1048576] (.cons (.mx (.var 8) (.var 17)) .nil)))))
(.br (.lt (.var 8) (.mx (.var 8) (.var 17)))
(.leaf (.cons (.var 0) (.zs [0,0,0,0,0,0] (.cons (.mn (.var 7) (.var 16)) (.cons (.lit 1048576) .nil)))))
(.leaf (.cons (.var 0) (.zs [0,0,0,0,0,0] (.cons (.mn (.var 7) (.var 16)) (.cons (.mx (.var 8) (.var 17)) .nil)))))))
(.leaf (.cons (.var 0) (.zs [0,0,0,0,0,0] (.cons (.mn (.var 7) (.var 16)) (.cons (.mx (.var 8) (.var 17)) .nil)))))))
(.call 0 (kTy) .nil 19
(.leaf (.vs 19 9 .nil))))))
def tZ:Spec:={F:=fun k=>match k with | 0=>cp | 1=>jn | _=>fun _=>[],pre:=fun k=>match k with | _=>fun _=>True}
theorem adN:aq tys_SdC [eZ 0,qR 1] [] [] [] 200 Tryz.f90 [.agg kTy,.agg kTy,.one (.fn 91),.one .bool] [.agg kTy] false (v_Ty (v_Ty (.bool::([])))) sT_tjjoin:=⟨by kernel_rfl,by kernel_rfl,by kernel_rfl⟩
theorem adh (a:Ty) (ha:Ty.ok a) (b:Ty) (hb:Ty.ok b) (t:Bool) (U:Env) (g:ab U 0 (v_Ty (v_Ty (.bool::([]))))=(d_Ty a (d_Ty b (.z (b2i t)::([]))))):sT_tjjoin.asks tZ (fun U e=>e.D U=fR (d_Ty a (d_Ty b (.z (b2i t)::([]))))) U fun _ _=>False:=by
 simp only[d_Ty,v_Ty,ab,varD,thm5,Dt.z.injEq,Dt.l.injEq,b2i_eq_iff,Nat.reduceAdd,and_true] at g
 simp only[sT_tjjoin,tZ,d_Ty,kSc,kTy,cp,jn,qq,fR,mC,Tr.asks,ah,okDs,okD,eqs,E.I,E.B,E.L,E.R,E.D,E.vs,E.gs,E.ins,E.sv,E.tn,E.iv,E.zs,E.zr,E.sg,E.tg,E.rg,E.rgs,E.pv,Nat.reduceSub,dI,dB,dL,varD,ab,S1,Nat.reduceAdd,-eq_self,ao,g]
 constructor<;>intro c0
 ·rw[tj_a c0]; try rfl
 constructor<;>intro c1
 ·rw[tj_b c1]; try rfl
 constructor<;>intro c2
 constructor<;>intro c3
 intro e; (try simp only[e,ao,-eq_self]); clear e
 ·rw[tj_1 c0 c1 c2 c3]; try rfl
 constructor<;>intro c4
 constructor<;>intro c5
 constructor<;>intro c6
 ·rw[tj_p c0 c1 c2 c3,agW c4 c5,agY c4 c6]; try rfl
 ·rw[tj_p c0 c1 c2 c3,agW c4 c5,agZ c6]; try rfl
 constructor<;>intro c7
 ·rw[tj_p c0 c1 c2 c3,agX c5,agY c4 c7]; try rfl
 ·rw[tj_p c0 c1 c2 c3,agX c5,agZ c7]; try rfl
 ·rw[tj_p c0 c1 c2 c3,anR c4,anT c4]; try rfl
 intro e; (try simp only[e,ao,-eq_self]); clear e
 ·rw[anS c0 c1 c2]; try rfl
theorem aeR {sp:Spec} {key:Nat} (hF:sp.F key=fR) (hP:sp.pre key=fun _=>True:=by rfl):SmOk Tryz.prog sp (mX key):=
 av (s:=mX key) hF hP (by kernel_rfl) cV (smc (ji rfl) (smc (ail rfl) sm0)) Tryz.func90 fn0 adN (.inl rfl) (bj fun q0 gq0=>bj fun q1 gq1=>fun x18 hp U g=>adh q0 gq0 q1 gq1 x18 U g)
def na (key:Nat):Sm:=⟨89,key,[.agg kTy,.agg kTy],[.agg kTy],false⟩
def mE (a:Ty) (b:Ty):List Dt:=d_Ty (eh false a b) ([])
def fS:List Dt->List Dt
 | [.z x0,.z x1,.z x2,.z x3,.z x4,.z x5,.z x6,.z x7,.z x8,.z x9,.z x10,.z x11,.z x12,.z x13,.z x14,.z x15,.z x16,.z x17]=>mE ⟨x0,x1,x2,x3,x4,x5,x6,x7,x8⟩ ⟨x9,x10,x11,x12,x13,x14,x15,x16,x17⟩
 | _=>[]
def sT_tcjoin:Tr:=
(.call 0 (kTy) (.vs 0 18 (.consb (.tt false) .nil)) 18
(.leaf (.vs 18 9 .nil)))
def uc:Spec:={F:=fun k=>match k with | 0=>fR | _=>fun _=>[],pre:=fun k=>match k with | _=>fun _=>True}
theorem adQ:aq tys_SdC [mX 0] [] [] [] 200 Tryz.f89 [.agg kTy,.agg kTy] [.agg kTy] false (v_Ty (v_Ty ([]))) sT_tcjoin:=⟨by kernel_rfl,by kernel_rfl,by kernel_rfl⟩
theorem adk (a:Ty) (ha:Ty.ok a) (b:Ty) (hb:Ty.ok b) (U:Env) (g:ab U 0 (v_Ty (v_Ty ([])))=(d_Ty a (d_Ty b ([])))):sT_tcjoin.asks uc (fun U e=>e.D U=fS (d_Ty a (d_Ty b ([])))) U fun _ _=>False:=by
 simp only[d_Ty,v_Ty,ab,varD,thm5,Dt.z.injEq,Dt.l.injEq,b2i_eq_iff,Nat.reduceAdd,and_true] at g
 simp only[sT_tcjoin,uc,d_Ty,kTy,fR,mC,fS,mE,Tr.asks,ah,okDs,okD,eqs,E.I,E.B,E.L,E.R,E.D,E.vs,E.gs,E.ins,E.sv,E.tn,E.iv,E.zs,E.zr,E.sg,E.tg,E.rg,E.rgs,E.pv,Nat.reduceSub,dI,dB,dL,varD,ab,S1,Nat.reduceAdd,-eq_self,ao,g]
 intro e; (try simp only[e,ao,-eq_self]); clear e
 ·rfl
theorem aeV {sp:Spec} {key:Nat} (hF:sp.F key=fS) (hP:sp.pre key=fun _=>True:=by rfl):SmOk Tryz.prog sp (na key):=
 av (s:=na key) hF hP (by kernel_rfl) cV (smc (aeR rfl) sm0) Tryz.func89 fn0 adQ (.inl rfl) (bj fun q0 gq0=>bj fun q1 gq1=>fun hp U g=>adk q0 gq0 q1 gq1 U g)
def mZ (key:Nat):Sm:=⟨73,key,[.agg kSta,.agg kSta,.one (.fn 89)],[.agg kSta,.one (.int .i64)],true⟩
def mD (a:Sta) (b:Sta):List Dt:=ay (kn false a b) (.z (serr a b)::([]))
def eH:List Dt->List Dt:=cg fun a=>cg fun b=>fun _=>mD a b
def sT_tejoin:Tr:=
(.call 0 [.bool] (.vs 0 171 .nil) 342
(.br (.bvar 342)
(.call 0 [.bool] (.vs 171 171 .nil) 343
(.br (.bvar 343)
(.call 1 (kTy) (.vs 0 9 (.vs 171 9 .nil)) 344
(.call 1 (kTy) (.vs 9 9 (.vs 180 9 .nil)) 353
(.call 1 (kTy) (.vs 18 9 (.vs 189 9 .nil)) 362
(.call 1 (kTy) (.vs 27 9 (.vs 198 9 .nil)) 371
(.call 1 (kTy) (.vs 36 9 (.vs 207 9 .nil)) 380
(.call 1 (kTy) (.vs 45 9 (.vs 216 9 .nil)) 389
(.call 1 (kTy) (.vs 54 9 (.vs 225 9 .nil)) 398
(.call 1 (kTy) (.vs 63 9 (.vs 234 9 .nil)) 407
(.call 1 (kTy) (.vs 72 9 (.vs 243 9 .nil)) 416
(.call 1 (kTy) (.vs 81 9 (.vs 252 9 .nil)) 425
(.call 1 (kTy) (.vs 90 9 (.vs 261 9 .nil)) 434
(.call 1 (kTy) (.vs 99 9 (.vs 270 9 .nil)) 443
(.call 1 (kTy) (.vs 108 9 (.vs 279 9 .nil)) 452
(.call 1 (kTy) (.vs 117 9 (.vs 288 9 .nil)) 461
(.call 1 (kTy) (.vs 126 9 (.vs 297 9 .nil)) 470
(.call 1 (kTy) (.vs 135 9 (.vs 306 9 .nil)) 479
(.call 1 (kTy) (.vs 144 9 (.vs 315 9 .nil)) 488
(.call 1 (kTy) (.vs 153 9 (.vs 324 9 .nil)) 497
(.call 1 (kTy) (.vs 162 9 (.vs 333 9 .nil)) 506
(.leaf (.vs 344 171 (.cons (.lit 0) .nil))))))))))))))))))))))
(.leaf (.zs [0,0,0,0,0,0,0,0,0,0,0,0,0,0,0,0,0,0,0,0,0,0,0,0,0,0,0,0,0,0,0,0,0,0,0,0,0,0,0,0,0,0,0,0,0,0,0,0,0,0,0,0,0,0,0,0,0,0,0,0,0,0,0,0,0,0,0,0,0,0,0,0,0,0,0,0,0,0,0,0,0,0,0,0,0,0,0,0,0,0,0,0,0,0,0,0,0,0,0,0,0,0,0,0,0,0,0,0,0,0,0,0,0,0,0,0,0,0,0,0,0,0,0,0,0,0,0,0,0,0,0,0,0,0,0,0,0,0,0,0,0,0,0,0,0,0,0,0,0,0,0,0,0,0,0,0,0,0,0,0,0,0,0,0,0,0,0,0,0,0,0,2] .nil))))
(.leaf (.zs [0,0,0,0,0,0,0,0,0,0,0,0,0,0,0,0,0,0,0,0,0,0,0,0,0,0,0,0,0,0,0,0,0,0,0,0,0,0,0,0,0,0,0,0,0,0,0,0,0,0,0,0,0,0,0,0,0,0,0,0,0,0,0,0,0,0,0,0,0,0,0,0,0,0,0,0,0,0,0,0,0,0,0,0,0,0,0,0,0,0,0,0,0,0,0,0,0,0,0,0,0,0,0,0,0,0,0,0,0,0,0,0,0,0,0,0,0,0,0,0,0,0,0,0,0,0,0,0,0,0,0,0,0,0,0,0,0,0,0,0,0,0,0,0,0,0,0,0,0,0,0,0,0,0,0,0,0,0,0,0,0,0,0,0,0,0,0,0,0,0,0,2] .nil))))
def ub:Spec:={F:=fun k=>match k with | 0=>eo | 1=>fS | _=>fun _=>[],pre:=fun k=>match k with | _=>fun _=>True}
theorem adP:aq tys_SdC [mW 0,na 1] [] [] [] 200 Tryz.f73 [.agg kSta,.agg kSta,.one (.fn 89)] [.agg kSta,.one (.int .i64)] true (bZ (bZ ([]))) sT_tejoin:=⟨by kernel_rfl,by kernel_rfl,by kernel_rfl⟩
theorem adj (a:Sta) (ha:Sta.ok a) (b:Sta) (hb:Sta.ok b) (U:Env) (g:ab U 0 (bZ (bZ ([])))=(ay a (ay b ([])))):sT_tejoin.asks ub (fun U e=>e.D U=eH (ay a (ay b ([])))) U fun _ _=>False:=by
 simp only[eH,bQ,fl,rdZ,rdB]
 simp only[ay,d_Ty,bZ,v_Ty,ab,varD,thm5,Dt.z.injEq,Dt.l.injEq,b2i_eq_iff,Nat.reduceAdd,and_true] at g
 simp(maxSteps:=10000000) only[sT_tejoin,ub,ay,d_Ty,kTy,cg,cG,eo,fS,mB,mE,eH,mD,Tr.asks,ah,okDs,okD,eqs,E.I,E.B,E.L,E.R,E.D,E.vs,E.gs,E.ins,E.sv,E.tn,E.iv,E.zs,E.zr,E.sg,E.tg,E.rg,E.rgs,E.pv,Nat.reduceSub,dI,dB,dL,varD,ab,S1,Nat.reduceAdd,-eq_self,ao,g]
 intro e; (try simp only[e,ao,-eq_self]); clear e
 constructor<;>intro c0
 intro e; (try simp only[e,ao,-eq_self]); clear e
 constructor<;>intro c1
 intro e; (try simp only[e,ao,-eq_self]); clear e
 intro e; (try simp only[e,ao,-eq_self]); clear e
 intro e; (try simp only[e,ao,-eq_self]); clear e
 intro e; (try simp only[e,ao,-eq_self]); clear e
 intro e; (try simp only[e,ao,-eq_self]); clear e
 intro e; (try simp only[e,ao,-eq_self]); clear e
 intro e; (try simp only[e,ao,-eq_self]); clear e
 intro e; (try simp only[e,ao,-eq_self]); clear e
 intro e; (try simp only[e,ao,-eq_self]); clear e
 intro e; (try simp only[e,ao,-eq_self]); clear e
 intro e; (try simp only[e,ao,-eq_self]); clear e
 intro e; (try simp only[e,ao,-eq_self]); clear e
 intro e; (try simp only[e,ao,-eq_self]); clear e
 intro e; (try simp only[e,ao,-eq_self]); clear e
 intro e; (try simp only[e,ao,-eq_self]); clear e
 intro e; (try simp only[e,ao,-eq_self]); clear e
 intro e; (try simp only[e,ao,-eq_self]); clear e
 intro e; (try simp only[e,ao,-eq_self]); clear e
 intro e; (try simp only[e,ao,-eq_self]); clear e
 ·rw[(yo c0 c1).1,(yo (w:=true) c0 c1).2]; rfl
 ·rw[(tK (.inr c1)).1,(tK (w:=true) (.inr c1)).2]; rfl
 ·rw[(tK (.inl c0)).1,(tK (w:=true) (.inl c0)).2]; rfl
theorem aeU {sp:Spec} {key:Nat} (hF:sp.F key=eH) (hP:sp.pre key=fun _=>True:=by rfl):SmOk Tryz.prog sp (mZ key):=
 av (s:=mZ key) hF hP (by kernel_rfl) cV (smc (wX rfl) (smc (aeV rfl) sm0)) Tryz.func73 fn0 adP (.inl rfl) (dj fun q0 gq0=>dj fun q1 gq1=>fun hp U g=>adj q0 gq0 q1 gq1 U g)
def mV (key:Nat):Sm:=⟨39,key,[.agg kSta,.agg kSta],[.agg kSta,.one (.int .i64)],true⟩
def tR (a:Sta) (b:Sta):List Dt:=ay (kn false a b) (.z (serr a b)::([]))
def dF:List Dt->List Dt:=cg fun a=>cg fun b=>fun _=>tR a b
def sT_tsjoin:Tr:=
(.call 0 (kSta++[.int .i64]) (.vs 0 342 .nil) 342
(.leaf (.vs 342 172 .nil)))
def tY:Spec:={F:=fun k=>match k with | 0=>eH | _=>fun _=>[],pre:=fun k=>match k with | _=>fun _=>True}
theorem adM:aq tys_SdC [mZ 0] [] [] [] 200 Tryz.f39 [.agg kSta,.agg kSta] [.agg kSta,.one (.int .i64)] true (bZ (bZ ([]))) sT_tsjoin:=⟨by kernel_rfl,by kernel_rfl,by kernel_rfl⟩
theorem adg (a:Sta) (ha:Sta.ok a) (b:Sta) (hb:Sta.ok b) (U:Env) (g:ab U 0 (bZ (bZ ([])))=(ay a (ay b ([])))):sT_tsjoin.asks tY (fun U e=>e.D U=dF (ay a (ay b ([])))) U fun _ _=>False:=by
 simp only[dF,bQ,fl,rdZ,rdB]
 simp only[ay,d_Ty,bZ,v_Ty,ab,varD,thm5,Dt.z.injEq,Dt.l.injEq,b2i_eq_iff,Nat.reduceAdd,and_true] at g
 simp(maxSteps:=10000000) only[sT_tsjoin,tY,ay,d_Ty,kSta,cg,cG,eH,mD,dF,tR,Tr.asks,ah,okDs,okD,eqs,E.I,E.B,E.L,E.R,E.D,E.vs,E.gs,E.ins,E.sv,E.tn,E.iv,E.zs,E.zr,E.sg,E.tg,E.rg,E.rgs,E.pv,Nat.reduceSub,dI,dB,dL,varD,ab,S1,Nat.reduceAdd,-eq_self,ao,g]
 intro e; (try simp only[e,ao,-eq_self]); clear e
 ·rfl
theorem aeQ {sp:Spec} {key:Nat} (hF:sp.F key=dF) (hP:sp.pre key=fun _=>True:=by rfl):SmOk Tryz.prog sp (mV key):=
 av (s:=mV key) hF hP (by kernel_rfl) cV (smc (aeU rfl) sm0) Tryz.func39 fn0 adM (.inl rfl) (dj fun q0 gq0=>dj fun q1 gq1=>fun hp U g=>adg q0 gq0 q1 gq1 U g)
def ra (key:Nat):Sm:=⟨90,key,[.agg kTy,.agg kTy,.one (.fn 93),.one .bool],[.agg kTy],false⟩
def qw (a:Ty) (b:Ty) (t:Bool):List Dt:=d_Ty (ez true t a b) ([])
def jt:List Dt->List Dt
 | [.z x0,.z x1,.z x2,.z x3,.z x4,.z x5,.z x6,.z x7,.z x8,.z x9,.z x10,.z x11,.z x12,.z x13,.z x14,.z x15,.z x16,.z x17,.z x18]=>qw ⟨x0,x1,x2,x3,x4,x5,x6,x7,x8⟩ ⟨x9,x10,x11,x12,x13,x14,x15,x16,x17⟩ (x18==1)
 | _=>[]
def sT_tjwid:Tr:=
(.br (.eq (.var 0) (.lit 0))
(.leaf (.zs [0,0,0,0,0,0,0,0,0] .nil))
(.br (.eq (.var 9) (.lit 0))
(.leaf (.zs [0,0,0,0,0,0,0,0,0] .nil))
(.br (.eq (.var 0) (.var 9))
(.br (.eq (.var 0) (.lit 1))
(.call 1 (kSc) (.vs 1 6 (.vs 10 6 .nil)) 19
(.leaf (.cons (.var 0) (.vs 19 6 (.cons (.lit 0) (.cons (.lit 0) .nil))))))
(.br (.bvar 18)
(.br (.lt (.mn (.var 7) (.var 16)) (.var 7))
(.br (.lt (.var 8) (.mx (.var 8) (.var 17)))
(.leaf (.cons (.var 0) (.zs [0,0,0,0,0,0,-1048576,1048576] .nil)))
(.leaf (.cons (.var 0) (.zs [0,0,0,0,0,0,-1048576] (.cons (.mx (.var 8) (.var 17)) .nil)))))
(.br (.lt (.var 8) (.mx (.var 8) (.var 17)))
(.leaf (.cons (.var 0) (.zs [0,0,0,0,0,0] (.cons (.mn (.var 7) (.var 16)) (.cons (.lit 1048576) .nil)))))
(.leaf (.cons (.var 0) (.zs [0,0,0,0,0,0] (.cons (.mn (.var 7) (.var 16)) (.cons (.mx (.var 8) (.var 17)) .nil)))))))
(.leaf (.cons (.var 0) (.zs [0,0,0,0,0,0] (.cons (.mn (.var 7) (.var 16)) (.cons (.mx (.var 8) (.var 17)) .nil)))))))
(.call 0 (kTy) .nil 19
(.leaf (.vs 19 9 .nil))))))
def yP:Spec:={F:=fun k=>match k with | 0=>cp | 1=>nq | _=>fun _=>[],pre:=fun k=>match k with | _=>fun _=>True}
theorem ah4:aq tys_SdC [eZ 0,ww 1] [] [] [] 200 Tryz.f90 [.agg kTy,.agg kTy,.one (.fn 93),.one .bool] [.agg kTy] false (v_Ty (v_Ty (.bool::([])))) sT_tjwid:=⟨by kernel_rfl,by kernel_rfl,by kernel_rfl⟩
theorem ahA (a:Ty) (ha:Ty.ok a) (b:Ty) (hb:Ty.ok b) (t:Bool) (U:Env) (g:ab U 0 (v_Ty (v_Ty (.bool::([]))))=(d_Ty a (d_Ty b (.z (b2i t)::([]))))):sT_tjwid.asks yP (fun U e=>e.D U=jt (d_Ty a (d_Ty b (.z (b2i t)::([]))))) U fun _ _=>False:=by
 simp only[d_Ty,v_Ty,ab,varD,thm5,Dt.z.injEq,Dt.l.injEq,b2i_eq_iff,Nat.reduceAdd,and_true] at g
 simp only[sT_tjwid,yP,d_Ty,kSc,kTy,cp,nq,vX,jt,qw,Tr.asks,ah,okDs,okD,eqs,E.I,E.B,E.L,E.R,E.D,E.vs,E.gs,E.ins,E.sv,E.tn,E.iv,E.zs,E.zr,E.sg,E.tg,E.rg,E.rgs,E.pv,Nat.reduceSub,dI,dB,dL,varD,ab,S1,Nat.reduceAdd,-eq_self,ao,g]
 constructor<;>intro c0
 ·rw[tj_a c0]; try rfl
 constructor<;>intro c1
 ·rw[tj_b c1]; try rfl
 constructor<;>intro c2
 constructor<;>intro c3
 intro e; (try simp only[e,ao,-eq_self]); clear e
 ·rw[tj_1 c0 c1 c2 c3]; try rfl
 constructor<;>intro c4
 constructor<;>intro c5
 constructor<;>intro c6
 ·rw[tj_p c0 c1 c2 c3,agW c4 c5,agY c4 c6]; try rfl
 ·rw[tj_p c0 c1 c2 c3,agW c4 c5,agZ c6]; try rfl
 constructor<;>intro c7
 ·rw[tj_p c0 c1 c2 c3,agX c5,agY c4 c7]; try rfl
 ·rw[tj_p c0 c1 c2 c3,agX c5,agZ c7]; try rfl
 ·rw[tj_p c0 c1 c2 c3,anR c4,anT c4]; try rfl
 intro e; (try simp only[e,ao,-eq_self]); clear e
 ·rw[anS c0 c1 c2]; try rfl
theorem ait {sp:Spec} {key:Nat} (hF:sp.F key=jt) (hP:sp.pre key=fun _=>True:=by rfl):SmOk Tryz.prog sp (ra key):=
 av (s:=ra key) hF hP (by kernel_rfl) cV (smc (ji rfl) (smc (ame rfl) sm0)) Tryz.func90 fn0 ah4 (.inl rfl) (bj fun q0 gq0=>bj fun q1 gq1=>fun x18 hp U g=>ahA q0 gq0 q1 gq1 x18 U g)
def ri (key:Nat):Sm:=⟨92,key,[.agg kTy,.agg kTy],[.agg kTy],false⟩
def qA (a:Ty) (b:Ty):List Dt:=d_Ty (eh true a b) ([])
def jv:List Dt->List Dt
 | [.z x0,.z x1,.z x2,.z x3,.z x4,.z x5,.z x6,.z x7,.z x8,.z x9,.z x10,.z x11,.z x12,.z x13,.z x14,.z x15,.z x16,.z x17]=>qA ⟨x0,x1,x2,x3,x4,x5,x6,x7,x8⟩ ⟨x9,x10,x11,x12,x13,x14,x15,x16,x17⟩
 | _=>[]
def sT_tcwid:Tr:=
(.call 0 (kTy) (.vs 0 18 (.consb (.tt true) .nil)) 18
(.leaf (.vs 18 9 .nil)))
def yR:Spec:={F:=fun k=>match k with | 0=>jt | _=>fun _=>[],pre:=fun k=>match k with | _=>fun _=>True}
theorem ah6:aq tys_SdC [ra 0] [] [] [] 200 Tryz.f92 [.agg kTy,.agg kTy] [.agg kTy] false (v_Ty (v_Ty ([]))) sT_tcwid:=⟨by kernel_rfl,by kernel_rfl,by kernel_rfl⟩
theorem ahC (a:Ty) (ha:Ty.ok a) (b:Ty) (hb:Ty.ok b) (U:Env) (g:ab U 0 (v_Ty (v_Ty ([])))=(d_Ty a (d_Ty b ([])))):sT_tcwid.asks yR (fun U e=>e.D U=jv (d_Ty a (d_Ty b ([])))) U fun _ _=>False:=by
 simp only[d_Ty,v_Ty,ab,varD,thm5,Dt.z.injEq,Dt.l.injEq,b2i_eq_iff,Nat.reduceAdd,and_true] at g
 simp only[sT_tcwid,yR,d_Ty,kTy,jt,qw,jv,qA,Tr.asks,ah,okDs,okD,eqs,E.I,E.B,E.L,E.R,E.D,E.vs,E.gs,E.ins,E.sv,E.tn,E.iv,E.zs,E.zr,E.sg,E.tg,E.rg,E.rgs,E.pv,Nat.reduceSub,dI,dB,dL,varD,ab,S1,Nat.reduceAdd,-eq_self,ao,g]
 intro e; (try simp only[e,ao,-eq_self]); clear e
 ·rfl
theorem aiv {sp:Spec} {key:Nat} (hF:sp.F key=jv) (hP:sp.pre key=fun _=>True:=by rfl):SmOk Tryz.prog sp (ri key):=
 av (s:=ri key) hF hP (by kernel_rfl) cV (smc (ait rfl) sm0) Tryz.func92 fn0 ah6 (.inl rfl) (bj fun q0 gq0=>bj fun q1 gq1=>fun hp U g=>ahC q0 gq0 q1 gq1 U g)
def rh (key:Nat):Sm:=⟨73,key,[.agg kSta,.agg kSta,.one (.fn 92)],[.agg kSta,.one (.int .i64)],true⟩
def qy (a:Sta) (b:Sta):List Dt:=ay (kn true a b) (.z (serr a b)::([]))
def gF:List Dt->List Dt:=cg fun a=>cg fun b=>fun _=>qy a b
def sT_tewid:Tr:=
(.call 0 [.bool] (.vs 0 171 .nil) 342
(.br (.bvar 342)
(.call 0 [.bool] (.vs 171 171 .nil) 343
(.br (.bvar 343)
(.call 1 (kTy) (.vs 0 9 (.vs 171 9 .nil)) 344
(.call 1 (kTy) (.vs 9 9 (.vs 180 9 .nil)) 353
(.call 1 (kTy) (.vs 18 9 (.vs 189 9 .nil)) 362
(.call 1 (kTy) (.vs 27 9 (.vs 198 9 .nil)) 371
(.call 1 (kTy) (.vs 36 9 (.vs 207 9 .nil)) 380
(.call 1 (kTy) (.vs 45 9 (.vs 216 9 .nil)) 389
(.call 1 (kTy) (.vs 54 9 (.vs 225 9 .nil)) 398
(.call 1 (kTy) (.vs 63 9 (.vs 234 9 .nil)) 407
(.call 1 (kTy) (.vs 72 9 (.vs 243 9 .nil)) 416
(.call 1 (kTy) (.vs 81 9 (.vs 252 9 .nil)) 425
(.call 1 (kTy) (.vs 90 9 (.vs 261 9 .nil)) 434
(.call 1 (kTy) (.vs 99 9 (.vs 270 9 .nil)) 443
(.call 1 (kTy) (.vs 108 9 (.vs 279 9 .nil)) 452
(.call 1 (kTy) (.vs 117 9 (.vs 288 9 .nil)) 461
(.call 1 (kTy) (.vs 126 9 (.vs 297 9 .nil)) 470
(.call 1 (kTy) (.vs 135 9 (.vs 306 9 .nil)) 479
(.call 1 (kTy) (.vs 144 9 (.vs 315 9 .nil)) 488
(.call 1 (kTy) (.vs 153 9 (.vs 324 9 .nil)) 497
(.call 1 (kTy) (.vs 162 9 (.vs 333 9 .nil)) 506
(.leaf (.vs 344 171 (.cons (.lit 0) .nil))))))))))))))))))))))
(.leaf (.zs [0,0,0,0,0,0,0,0,0,0,0,0,0,0,0,0,0,0,0,0,0,0,0,0,0,0,0,0,0,0,0,0,0,0,0,0,0,0,0,0,0,0,0,0,0,0,0,0,0,0,0,0,0,0,0,0,0,0,0,0,0,0,0,0,0,0,0,0,0,0,0,0,0,0,0,0,0,0,0,0,0,0,0,0,0,0,0,0,0,0,0,0,0,0,0,0,0,0,0,0,0,0,0,0,0,0,0,0,0,0,0,0,0,0,0,0,0,0,0,0,0,0,0,0,0,0,0,0,0,0,0,0,0,0,0,0,0,0,0,0,0,0,0,0,0,0,0,0,0,0,0,0,0,0,0,0,0,0,0,0,0,0,0,0,0,0,0,0,0,0,0,2] .nil))))
(.leaf (.zs [0,0,0,0,0,0,0,0,0,0,0,0,0,0,0,0,0,0,0,0,0,0,0,0,0,0,0,0,0,0,0,0,0,0,0,0,0,0,0,0,0,0,0,0,0,0,0,0,0,0,0,0,0,0,0,0,0,0,0,0,0,0,0,0,0,0,0,0,0,0,0,0,0,0,0,0,0,0,0,0,0,0,0,0,0,0,0,0,0,0,0,0,0,0,0,0,0,0,0,0,0,0,0,0,0,0,0,0,0,0,0,0,0,0,0,0,0,0,0,0,0,0,0,0,0,0,0,0,0,0,0,0,0,0,0,0,0,0,0,0,0,0,0,0,0,0,0,0,0,0,0,0,0,0,0,0,0,0,0,0,0,0,0,0,0,0,0,0,0,0,0,2] .nil))))
def yQ:Spec:={F:=fun k=>match k with | 0=>eo | 1=>jv | _=>fun _=>[],pre:=fun k=>match k with | _=>fun _=>True}
theorem ah5:aq tys_SdC [mW 0,ri 1] [] [] [] 200 Tryz.f73 [.agg kSta,.agg kSta,.one (.fn 92)] [.agg kSta,.one (.int .i64)] true (bZ (bZ ([]))) sT_tewid:=⟨by kernel_rfl,by kernel_rfl,by kernel_rfl⟩
theorem ahB (a:Sta) (ha:Sta.ok a) (b:Sta) (hb:Sta.ok b) (U:Env) (g:ab U 0 (bZ (bZ ([])))=(ay a (ay b ([])))):sT_tewid.asks yQ (fun U e=>e.D U=gF (ay a (ay b ([])))) U fun _ _=>False:=by
 simp only[gF,bQ,fl,rdZ,rdB]
 simp only[ay,d_Ty,bZ,v_Ty,ab,varD,thm5,Dt.z.injEq,Dt.l.injEq,b2i_eq_iff,Nat.reduceAdd,and_true] at g
 simp(maxSteps:=10000000) only[sT_tewid,yQ,ay,d_Ty,kTy,cg,cG,eo,jv,mB,qA,gF,qy,Tr.asks,ah,okDs,okD,eqs,E.I,E.B,E.L,E.R,E.D,E.vs,E.gs,E.ins,E.sv,E.tn,E.iv,E.zs,E.zr,E.sg,E.tg,E.rg,E.rgs,E.pv,Nat.reduceSub,dI,dB,dL,varD,ab,S1,Nat.reduceAdd,-eq_self,ao,g]
 intro e; (try simp only[e,ao,-eq_self]); clear e
 constructor<;>intro c0
 intro e; (try simp only[e,ao,-eq_self]); clear e
 constructor<;>intro c1
 intro e; (try simp only[e,ao,-eq_self]); clear e
 intro e; (try simp only[e,ao,-eq_self]); clear e
 intro e; (try simp only[e,ao,-eq_self]); clear e
 intro e; (try simp only[e,ao,-eq_self]); clear e
 intro e; (try simp only[e,ao,-eq_self]); clear e
 intro e; (try simp only[e,ao,-eq_self]); clear e
 intro e; (try simp only[e,ao,-eq_self]); clear e
 intro e; (try simp only[e,ao,-eq_self]); clear e
 intro e; (try simp only[e,ao,-eq_self]); clear e
 intro e; (try simp only[e,ao,-eq_self]); clear e
 intro e; (try simp only[e,ao,-eq_self]); clear e
 intro e; (try simp only[e,ao,-eq_self]); clear e
 intro e; (try simp only[e,ao,-eq_self]); clear e
 intro e; (try simp only[e,ao,-eq_self]); clear e
 intro e; (try simp only[e,ao,-eq_self]); clear e
 intro e; (try simp only[e,ao,-eq_self]); clear e
 intro e; (try simp only[e,ao,-eq_self]); clear e
 intro e; (try simp only[e,ao,-eq_self]); clear e
 intro e; (try simp only[e,ao,-eq_self]); clear e
 ·rw[(yo c0 c1).1,(yo (w:=true) c0 c1).2]; rfl
 ·rw[(tK (.inr c1)).1,(tK (w:=true) (.inr c1)).2]; rfl
 ·rw[(tK (.inl c0)).1,(tK (w:=true) (.inl c0)).2]; rfl
theorem aiu {sp:Spec} {key:Nat} (hF:sp.F key=gF) (hP:sp.pre key=fun _=>True:=by rfl):SmOk Tryz.prog sp (rh key):=
 av (s:=rh key) hF hP (by kernel_rfl) cV (smc (wX rfl) (smc (aiv rfl) sm0)) Tryz.func73 fn0 ah5 (.inl rfl) (dj fun q0 gq0=>dj fun q1 gq1=>fun hp U g=>ahB q0 gq0 q1 gq1 U g)
def qY (key:Nat):Sm:=⟨40,key,[.agg kSta,.agg kSta],[.agg kSta,.one (.int .i64)],true⟩
def yv (a:Sta) (b:Sta):List Dt:=ay (kn true a b) (.z (serr a b)::([]))
def fe:List Dt->List Dt:=cg fun a=>cg fun b=>fun _=>yv a b
def sT_tswid:Tr:=
(.call 0 (kSta++[.int .i64]) (.vs 0 342 .nil) 342
(.leaf (.vs 342 172 .nil)))
def yM:Spec:={F:=fun k=>match k with | 0=>gF | _=>fun _=>[],pre:=fun k=>match k with | _=>fun _=>True}
theorem ah1:aq tys_SdC [rh 0] [] [] [] 200 Tryz.f40 [.agg kSta,.agg kSta] [.agg kSta,.one (.int .i64)] true (bZ (bZ ([]))) sT_tswid:=⟨by kernel_rfl,by kernel_rfl,by kernel_rfl⟩
theorem ahx (a:Sta) (ha:Sta.ok a) (b:Sta) (hb:Sta.ok b) (U:Env) (g:ab U 0 (bZ (bZ ([])))=(ay a (ay b ([])))):sT_tswid.asks yM (fun U e=>e.D U=fe (ay a (ay b ([])))) U fun _ _=>False:=by
 simp only[fe,bQ,fl,rdZ,rdB]
 simp only[ay,d_Ty,bZ,v_Ty,ab,varD,thm5,Dt.z.injEq,Dt.l.injEq,b2i_eq_iff,Nat.reduceAdd,and_true] at g
 simp(maxSteps:=10000000) only[sT_tswid,yM,ay,d_Ty,kSta,cg,cG,gF,qy,fe,yv,Tr.asks,ah,okDs,okD,eqs,E.I,E.B,E.L,E.R,E.D,E.vs,E.gs,E.ins,E.sv,E.tn,E.iv,E.zs,E.zr,E.sg,E.tg,E.rg,E.rgs,E.pv,Nat.reduceSub,dI,dB,dL,varD,ab,S1,Nat.reduceAdd,-eq_self,ao,g]
 intro e; (try simp only[e,ao,-eq_self]); clear e
 ·rfl
theorem air {sp:Spec} {key:Nat} (hF:sp.F key=fe) (hP:sp.pre key=fun _=>True:=by rfl):SmOk Tryz.prog sp (qY key):=
 av (s:=qY key) hF hP (by kernel_rfl) cV (smc (aiu rfl) sm0) Tryz.func40 fn0 ah1 (.inl rfl) (dj fun q0 gq0=>dj fun q1 gq1=>fun hp U g=>ahx q0 gq0 q1 gq1 U g)
end Go.Proofs.YtfkhblmeioiciaaGreatDoor
