import Derived.Test.YtfkhblmeioiciaaGreatDoorSdB
import Derived.Test.YtfkhblmeioiciaaGreatDoorProg
import Derived.Laws.Externs
set_option maxRecDepth 100000
set_option maxHeartbeats 8000000
set_option linter.defProp false
set_option linter.unusedVariables false
set_option linter.unusedSimpArgs false
namespace Go.Proofs.YtfkhblmeioiciaaGreatDoor
open Go.RowKit Go.ChangeShapes Go.WideShapes
def tys_SdC:List (Nat×TI):=[(2,tiq2),
 (3,tiq3),
 (37,ig),
 (42,fP),
 (44,ic),
 (46,kD),
 (48,ahz),
 (50,⟨true,9,(zN 9 221122110),[(0,37),(1,48),(7,3),(8,3)],none,none,false,false,none,72,false,none,false,0⟩),
 (51,wk),
 (52,wj),
 (54,ac0)]
theorem acS:(tys_SdC.all fun p=>ckTI Tryz.prog p.1 p.2)=true:=by kernel_rfl
theorem tJ:(tys_SdC.all fun p=>!p.2.eqok)=true:=by kernel_rfl
theorem acy:(tys_SdC.all fun p=>!p.2.keyok)=true:=by kernel_rfl
theorem db:∀t i,(t,i)∈tys_SdC->TIok Tryz.prog t i:=by
 intro t i h
 refine bE (cC (f:=ckTI Tryz.prog) acS h) (fun he=> ?_) (fun he=> ?_) (fun he=> ?_)
 ·have h1:=thm7.1 tJ (t,i) h
  simp[he] at h1
 ·have h1:=thm7.1 tJ (t,i) h
  simp[he] at h1
 ·have h1:=thm7.1 acy (t,i) h
  simp[he] at h1
def nm (key:Nat):Sm:=⟨90,key,[.agg kTy,.agg kTy,.one (.fn 91),.one .bool],[.agg kTy],false⟩
def mO (a:Ty) (b:Ty) (t:Bool):List Dt:=d_Ty (eN false t a b) ([])
def gj:List Dt->List Dt
 | [.z x0,.z x1,.z x2,.z x3,.z x4,.z x5,.z x6,.z x7,.z x8,.z x9,.z x10,.z x11,.z x12,.z x13,.z x14,.z x15,.z x16,.z x17,.z x18]=>mO ⟨x0,x1,x2,x3,x4,x5,x6,x7,x8⟩ ⟨x9,x10,x11,x12,x13,x14,x15,x16,x17⟩ (x18==1)
 | _=>[]
def alv:Tr:=(.leaf (.cons (.var 0) (.zs [0,0,0,0,0,0] (.cons (.mn (.var 7) (.var 16)) (.cons (.mx (.var 8) (.var 17)) .nil)))))
def sT_tjjoin:Tr:=
(.br (.eq (.var 0) (.lit 0))
(.leaf (.zs [0,0,0,0,0,0,0,0,0] .nil))
(.br (.eq (.var 9) (.lit 0))
(.leaf (.zs [0,0,0,0,0,0,0,0,0] .nil))
(.br (.eq (.var 0) (.var 9))
(.br (.eq (.var 0) (.lit 1))
(.call 1 (kSc) (.vs 1 6 (.vs 10 6 .nil)) 19
(.leaf (.cons (.var 0) (.vs 19 6 (.cons (.lit 0) (.cons (.lit 0) .nil))))))
(.br (.bw 18)
(.br (.lt (.mn (.var 7) (.var 16)) (.var 7))
(.br (.lt (.var 8) (.mx (.var 8) (.var 17)))
(.leaf (.cons (.var 0) (.zs [0,0,0,0,0,0,-1048576,1048576] .nil)))
(.leaf (.cons (.var 0) (.zs [0,0,0,0,0,0,-1048576] (.cons (.mx (.var 8) (.var 17)) .nil)))))
(.br (.lt (.var 8) (.mx (.var 8) (.var 17)))
(.leaf (.cons (.var 0) (.zs [0,0,0,0,0,0] (.cons (.mn (.var 7) (.var 16)) (.cons (.lit 1048576) .nil)))))
 alv))
 alv))
(.call 0 (kTy) .nil 19
(.leaf (.vs 19 9 .nil))))))
def uA:Spec:={F:=fun k=>match k with | 0=>cp | 1=>jB | _=>fun _=>[],pre:=fun _ _=>True}
theorem aeb:ap tys_SdC [fm 0,rn 1] [] [] [] 200 Tryz.f90 [.agg kTy,.agg kTy,.one (.fn 91),.one .bool] [.agg kTy] false (v_Ty (v_Ty (.bool::([])))) sT_tjjoin:=⟨by kernel_rfl,by kernel_rfl,by kernel_rfl⟩
theorem adF (a:Ty) (ha:Ty.ok a) (b:Ty) (hb:Ty.ok b) (t:Bool) (U:Env) (g:varsD U 0 (v_Ty (v_Ty (.bool::([]))))=(d_Ty a (d_Ty b (.z (b2i t)::([]))))):sT_tjjoin.asks uA (fun U e=>e.D U=gj (d_Ty a (d_Ty b (.z (b2i t)::([]))))) U fun _ _=>False:=by
 simp only[d_Ty,v_Ty,varsD,varD,thm5,gS0,Nat.reduceAdd,and_true] at g
 simp only[sT_tjjoin,alv,uA,d_Ty,kSc,kTy,cp,jB,qH,gj,mO,simQ,af,S1,Nat.reduceSub,Nat.reduceAdd,-eq_self,am,g]
 constructor<;>intro c0
 ·rw[tj_a c0];try rfl
 constructor<;>intro c1
 ·rw[tj_b c1];try rfl
 constructor<;>intro c2
 constructor<;>intro c3
 intro e;(try simp only[e,am,-eq_self]);clear e
 ·rw[tj_1 c0 c1 c2 c3];try rfl
 constructor<;>intro c4
 constructor<;>intro c5
 constructor<;>intro c6
 ·rw[tj_p c0 c1 c2 c3,ahx c4 c5,ahB c4 c6];try rfl
 ·rw[tj_p c0 c1 c2 c3,ahx c4 c5,ahC c6];try rfl
 constructor<;>intro c7
 ·rw[tj_p c0 c1 c2 c3,ahy c5,ahB c4 c7];try rfl
 ·rw[tj_p c0 c1 c2 c3,ahy c5,ahC c7];try rfl
 ·rw[tj_p c0 c1 c2 c3,apb c4,ape c4];try rfl
 intro e;(try simp only[e,am,-eq_self]);clear e
 ·rw[apc c0 c1 c2];try rfl
theorem vv:Tryz.prog.follows .mixedOrders=true:=by kernel_rfl
theorem afh {sp:Spec} {key:Nat} (hF:sp.F key=gj) (hP:sp.pre key=fun _=>True:=by rfl):SmOk Tryz.prog sp (nm key):=
 au (s:=nm key) hF hP vv db (smc (jx rfl) (smc (aiX rfl) sm0)) Tryz.func90 fn0 aeb (.inl rfl) (bj fun q0 gq0=>bj fun q1 gq1=>fun x18 hp U g=>adF q0 gq0 q1 gq1 x18 U g)
def nr (key:Nat):Sm:=⟨89,key,[.agg kTy,.agg kTy],[.agg kTy],false⟩
def mQ (a:Ty) (b:Ty):List Dt:=d_Ty (ew false a b) ([])
def gk:List Dt->List Dt
 | [.z x0,.z x1,.z x2,.z x3,.z x4,.z x5,.z x6,.z x7,.z x8,.z x9,.z x10,.z x11,.z x12,.z x13,.z x14,.z x15,.z x16,.z x17]=>mQ ⟨x0,x1,x2,x3,x4,x5,x6,x7,x8⟩ ⟨x9,x10,x11,x12,x13,x14,x15,x16,x17⟩
 | _=>[]
def sT_tcjoin:Tr:=
(.call 0 (kTy) (.vs 0 18 (.cb (.tt false) .nil)) 18
(.leaf (.vs 18 9 .nil)))
def uD:Spec:={F:=fun k=>match k with | 0=>gj | _=>fun _=>[],pre:=fun _ _=>True}
theorem aee:ap tys_SdC [nm 0] [] [] [] 200 Tryz.f89 [.agg kTy,.agg kTy] [.agg kTy] false (v_Ty (v_Ty ([]))) sT_tcjoin:=⟨by kernel_rfl,by kernel_rfl,by kernel_rfl⟩
theorem adI (a:Ty) (ha:Ty.ok a) (b:Ty) (hb:Ty.ok b) (U:Env) (g:varsD U 0 (v_Ty (v_Ty ([])))=(d_Ty a (d_Ty b ([])))):sT_tcjoin.asks uD (fun U e=>e.D U=gk (d_Ty a (d_Ty b ([])))) U fun _ _=>False:=by
 simp only[d_Ty,v_Ty,varsD,varD,thm5,gS0,Nat.reduceAdd,and_true] at g
 simp only[sT_tcjoin,uD,d_Ty,kTy,gj,mO,gk,mQ,simQ,af,S1,Nat.reduceSub,Nat.reduceAdd,-eq_self,am,g]
 intro e;(try simp only[e,am,-eq_self]);clear e
 ·rfl
theorem afl {sp:Spec} {key:Nat} (hF:sp.F key=gk) (hP:sp.pre key=fun _=>True:=by rfl):SmOk Tryz.prog sp (nr key):=
 au (s:=nr key) hF hP vv db (smc (afh rfl) sm0) Tryz.func89 fn0 aee (.inl rfl) (bj fun q0 gq0=>bj fun q1 gq1=>fun hp U g=>adI q0 gq0 q1 gq1 U g)
def nq (key:Nat):Sm:=⟨73,key,[.agg kSta,.agg kSta,.one (.fn 89)],[.agg kSta,.one (.int .i64)],true⟩
def mP (a:Sta) (b:Sta):List Dt:=ax (kG false a b) (.z (serr a b)::([]))
def eW:List Dt->List Dt:=cg fun a=>cg fun b=>fun _=>mP a b
def sT_tejoin:Tr:=
(.call 0 [.bool] (.vs 0 171 .nil) 342
(.br (.bw 342)
(.call 0 [.bool] (.vs 171 171 .nil) 343
(.br (.bw 343)
(.call 1 (kTy) (.vs 0 9 (.vs 171 9 .nil)) 344
(.call 1 (kTy) (.vs 9 9 (.vs 180 9 .nil)) 353
(.call 1 (kTy) (.vs 18 9 (.vs 189 9 .nil)) 362
(.call 1 (kTy) (.vs 27 9 (.vs 198 9 .nil)) 371
(.call 1 (kTy) (.vs 36 9 (.vs 207 9 .nil)) 380
(.call 1 (kTy) (.vs 45 9 (.vs 216 9 .nil)) 389
(.call 1 (kTy) (.vs 54 9 (.vs 225 9 .nil)) 398
(.call 1 (kTy) (.vs 63 9 (.vs 234 9 .nil)) 407
(.call 1 (kTy) (.vs 72 9 (.vs 243 9 .nil)) 416
(.call 1 (kTy) (.vs 81 9 (.vs 252 9 .nil)) 425
(.call 1 (kTy) (.vs 90 9 (.vs 261 9 .nil)) 434
(.call 1 (kTy) (.vs 99 9 (.vs 270 9 .nil)) 443
(.call 1 (kTy) (.vs 108 9 (.vs 279 9 .nil)) 452
(.call 1 (kTy) (.vs 117 9 (.vs 288 9 .nil)) 461
(.call 1 (kTy) (.vs 126 9 (.vs 297 9 .nil)) 470
(.call 1 (kTy) (.vs 135 9 (.vs 306 9 .nil)) 479
(.call 1 (kTy) (.vs 144 9 (.vs 315 9 .nil)) 488
(.call 1 (kTy) (.vs 153 9 (.vs 324 9 .nil)) 497
(.call 1 (kTy) (.vs 162 9 (.vs 333 9 .nil)) 506
(.leaf (.vs 344 171 (.cons (.lit 0) .nil))))))))))))))))))))))
(.leaf (.zs [0,0,0,0,0,0,0,0,0,0,0,0,0,0,0,0,0,0,0,0,0,0,0,0,0,0,0,0,0,0,0,0,0,0,0,0,0,0,0,0,0,0,0,0,0,0,0,0,0,0,0,0,0,0,0,0,0,0,0,0,0,0,0,0,0,0,0,0,0,0,0,0,0,0,0,0,0,0,0,0,0,0,0,0,0,0,0,0,0,0,0,0,0,0,0,0,0,0,0,0,0,0,0,0,0,0,0,0,0,0,0,0,0,0,0,0,0,0,0,0,0,0,0,0,0,0,0,0,0,0,0,0,0,0,0,0,0,0,0,0,0,0,0,0,0,0,0,0,0,0,0,0,0,0,0,0,0,0,0,0,0,0,0,0,0,0,0,0,0,0,0,2] .nil))))
(.leaf (.zs [0,0,0,0,0,0,0,0,0,0,0,0,0,0,0,0,0,0,0,0,0,0,0,0,0,0,0,0,0,0,0,0,0,0,0,0,0,0,0,0,0,0,0,0,0,0,0,0,0,0,0,0,0,0,0,0,0,0,0,0,0,0,0,0,0,0,0,0,0,0,0,0,0,0,0,0,0,0,0,0,0,0,0,0,0,0,0,0,0,0,0,0,0,0,0,0,0,0,0,0,0,0,0,0,0,0,0,0,0,0,0,0,0,0,0,0,0,0,0,0,0,0,0,0,0,0,0,0,0,0,0,0,0,0,0,0,0,0,0,0,0,0,0,0,0,0,0,0,0,0,0,0,0,0,0,0,0,0,0,0,0,0,0,0,0,0,0,0,0,0,0,2] .nil))))
def uC:Spec:={F:=fun k=>match k with | 0=>eC | 1=>gk | _=>fun _=>[],pre:=fun _ _=>True}
theorem aed:ap tys_SdC [nl 0,nr 1] [] [] [] 200 Tryz.f73 [.agg kSta,.agg kSta,.one (.fn 89)] [.agg kSta,.one (.int .i64)] true (bY (bY ([]))) sT_tejoin:=⟨by kernel_rfl,by kernel_rfl,by kernel_rfl⟩
theorem adH (a:Sta) (ha:Sta.ok a) (b:Sta) (hb:Sta.ok b) (U:Env) (g:varsD U 0 (bY (bY ([])))=(ax a (ax b ([])))):sT_tejoin.asks uC (fun U e=>e.D U=eW (ax a (ax b ([])))) U fun _ _=>False:=by
 simp only[eW,bP,fC,rdZ,rdB]
 simp only[ax,d_Ty,bY,v_Ty,varsD,varD,thm5,gS0,Nat.reduceAdd,and_true] at g
 simp(maxSteps:=10000000) only[sT_tejoin,uC,ax,d_Ty,kTy,cg,cH,eC,gk,mN,mQ,eW,mP,simQ,af,S1,Nat.reduceSub,Nat.reduceAdd,-eq_self,am,g]
 intro e;(try simp only[e,am,-eq_self]);clear e
 constructor<;>intro c0
 intro e;(try simp only[e,am,-eq_self]);clear e
 constructor<;>intro c1
 intro e;(try simp only[e,am,-eq_self]);clear e
 intro e;(try simp only[e,am,-eq_self]);clear e
 intro e;(try simp only[e,am,-eq_self]);clear e
 intro e;(try simp only[e,am,-eq_self]);clear e
 intro e;(try simp only[e,am,-eq_self]);clear e
 intro e;(try simp only[e,am,-eq_self]);clear e
 intro e;(try simp only[e,am,-eq_self]);clear e
 intro e;(try simp only[e,am,-eq_self]);clear e
 intro e;(try simp only[e,am,-eq_self]);clear e
 intro e;(try simp only[e,am,-eq_self]);clear e
 intro e;(try simp only[e,am,-eq_self]);clear e
 intro e;(try simp only[e,am,-eq_self]);clear e
 intro e;(try simp only[e,am,-eq_self]);clear e
 intro e;(try simp only[e,am,-eq_self]);clear e
 intro e;(try simp only[e,am,-eq_self]);clear e
 intro e;(try simp only[e,am,-eq_self]);clear e
 intro e;(try simp only[e,am,-eq_self]);clear e
 intro e;(try simp only[e,am,-eq_self]);clear e
 intro e;(try simp only[e,am,-eq_self]);clear e
 ·rw[(yO c0 c1).1,(yO (w:=true) c0 c1).2];rfl
 ·rw[(ue (.inr c1)).1,(ue (w:=true) (.inr c1)).2];rfl
 ·rw[(ue (.inl c0)).1,(ue (w:=true) (.inl c0)).2];rfl
theorem afk {sp:Spec} {key:Nat} (hF:sp.F key=eW) (hP:sp.pre key=fun _=>True:=by rfl):SmOk Tryz.prog sp (nq key):=
 au (s:=nq key) hF hP vv db (smc (xx rfl) (smc (afl rfl) sm0)) Tryz.func73 fn0 aed (.inl rfl) (dq fun q0 gq0=>dq fun q1 gq1=>fun hp U g=>adH q0 gq0 q1 gq1 U g)
def nj (key:Nat):Sm:=⟨39,key,[.agg kSta,.agg kSta],[.agg kSta,.one (.int .i64)],true⟩
def uo (a:Sta) (b:Sta):List Dt:=ax (kG false a b) (.z (serr a b)::([]))
def dK:List Dt->List Dt:=cg fun a=>cg fun b=>fun _=>uo a b
def sT_tsjoin:Tr:=
(.call 0 (kSta++[.int .i64]) (.vs 0 342 .nil) 342
(.leaf (.vs 342 172 .nil)))
def uz:Spec:={F:=fun k=>match k with | 0=>eW | _=>fun _=>[],pre:=fun _ _=>True}
theorem aea:ap tys_SdC [nq 0] [] [] [] 200 Tryz.f39 [.agg kSta,.agg kSta] [.agg kSta,.one (.int .i64)] true (bY (bY ([]))) sT_tsjoin:=⟨by kernel_rfl,by kernel_rfl,by kernel_rfl⟩
theorem adE (a:Sta) (ha:Sta.ok a) (b:Sta) (hb:Sta.ok b) (U:Env) (g:varsD U 0 (bY (bY ([])))=(ax a (ax b ([])))):sT_tsjoin.asks uz (fun U e=>e.D U=dK (ax a (ax b ([])))) U fun _ _=>False:=by
 simp only[dK,bP,fC,rdZ,rdB]
 simp only[ax,d_Ty,bY,v_Ty,varsD,varD,thm5,gS0,Nat.reduceAdd,and_true] at g
 simp(maxSteps:=10000000) only[sT_tsjoin,uz,ax,d_Ty,kSta,cg,cH,eW,mP,dK,uo,simQ,af,S1,Nat.reduceSub,Nat.reduceAdd,-eq_self,am,g]
 intro e;(try simp only[e,am,-eq_self]);clear e
 ·rfl
theorem afg {sp:Spec} {key:Nat} (hF:sp.F key=dK) (hP:sp.pre key=fun _=>True:=by rfl):SmOk Tryz.prog sp (nj key):=
 au (s:=nj key) hF hP vv db (smc (afk rfl) sm0) Tryz.func39 fn0 aea (.inl rfl) (dq fun q0 gq0=>dq fun q1 gq1=>fun hp U g=>adE q0 gq0 q1 gq1 U g)
def rC (key:Nat):Sm:=⟨90,key,[.agg kTy,.agg kTy,.one (.fn 93),.one .bool],[.agg kTy],false⟩
def qN (a:Ty) (b:Ty) (t:Bool):List Dt:=d_Ty (eN true t a b) ([])
def jH:List Dt->List Dt
 | [.z x0,.z x1,.z x2,.z x3,.z x4,.z x5,.z x6,.z x7,.z x8,.z x9,.z x10,.z x11,.z x12,.z x13,.z x14,.z x15,.z x16,.z x17,.z x18]=>qN ⟨x0,x1,x2,x3,x4,x5,x6,x7,x8⟩ ⟨x9,x10,x11,x12,x13,x14,x15,x16,x17⟩ (x18==1)
 | _=>[]
def alu:Tr:=(.leaf (.cons (.var 0) (.zs [0,0,0,0,0,0] (.cons (.mn (.var 7) (.var 16)) (.cons (.mx (.var 8) (.var 17)) .nil)))))
def sT_tjwid:Tr:=
(.br (.eq (.var 0) (.lit 0))
(.leaf (.zs [0,0,0,0,0,0,0,0,0] .nil))
(.br (.eq (.var 9) (.lit 0))
(.leaf (.zs [0,0,0,0,0,0,0,0,0] .nil))
(.br (.eq (.var 0) (.var 9))
(.br (.eq (.var 0) (.lit 1))
(.call 1 (kSc) (.vs 1 6 (.vs 10 6 .nil)) 19
(.leaf (.cons (.var 0) (.vs 19 6 (.cons (.lit 0) (.cons (.lit 0) .nil))))))
(.br (.bw 18)
(.br (.lt (.mn (.var 7) (.var 16)) (.var 7))
(.br (.lt (.var 8) (.mx (.var 8) (.var 17)))
(.leaf (.cons (.var 0) (.zs [0,0,0,0,0,0,-1048576,1048576] .nil)))
(.leaf (.cons (.var 0) (.zs [0,0,0,0,0,0,-1048576] (.cons (.mx (.var 8) (.var 17)) .nil)))))
(.br (.lt (.var 8) (.mx (.var 8) (.var 17)))
(.leaf (.cons (.var 0) (.zs [0,0,0,0,0,0] (.cons (.mn (.var 7) (.var 16)) (.cons (.lit 1048576) .nil)))))
 alu))
 alu))
(.call 0 (kTy) .nil 19
(.leaf (.vs 19 9 .nil))))))
def zm:Spec:={F:=fun k=>match k with | 0=>cp | 1=>nF | _=>fun _=>[],pre:=fun _ _=>True}
theorem aiG:ap tys_SdC [fm 0,wT 1] [] [] [] 200 Tryz.f90 [.agg kTy,.agg kTy,.one (.fn 93),.one .bool] [.agg kTy] false (v_Ty (v_Ty (.bool::([])))) sT_tjwid:=⟨by kernel_rfl,by kernel_rfl,by kernel_rfl⟩
theorem aic (a:Ty) (ha:Ty.ok a) (b:Ty) (hb:Ty.ok b) (t:Bool) (U:Env) (g:varsD U 0 (v_Ty (v_Ty (.bool::([]))))=(d_Ty a (d_Ty b (.z (b2i t)::([]))))):sT_tjwid.asks zm (fun U e=>e.D U=jH (d_Ty a (d_Ty b (.z (b2i t)::([]))))) U fun _ _=>False:=by
 simp only[d_Ty,v_Ty,varsD,varD,thm5,gS0,Nat.reduceAdd,and_true] at g
 simp only[sT_tjwid,alu,zm,d_Ty,kSc,kTy,cp,nF,wC,jH,qN,simQ,af,S1,Nat.reduceSub,Nat.reduceAdd,-eq_self,am,g]
 constructor<;>intro c0
 ·rw[tj_a c0];try rfl
 constructor<;>intro c1
 ·rw[tj_b c1];try rfl
 constructor<;>intro c2
 constructor<;>intro c3
 intro e;(try simp only[e,am,-eq_self]);clear e
 ·rw[tj_1 c0 c1 c2 c3];try rfl
 constructor<;>intro c4
 constructor<;>intro c5
 constructor<;>intro c6
 ·rw[tj_p c0 c1 c2 c3,ahx c4 c5,ahB c4 c6];try rfl
 ·rw[tj_p c0 c1 c2 c3,ahx c4 c5,ahC c6];try rfl
 constructor<;>intro c7
 ·rw[tj_p c0 c1 c2 c3,ahy c5,ahB c4 c7];try rfl
 ·rw[tj_p c0 c1 c2 c3,ahy c5,ahC c7];try rfl
 ·rw[tj_p c0 c1 c2 c3,apb c4,ape c4];try rfl
 intro e;(try simp only[e,am,-eq_self]);clear e
 ·rw[apc c0 c1 c2];try rfl
theorem ai5 {sp:Spec} {key:Nat} (hF:sp.F key=jH) (hP:sp.pre key=fun _=>True:=by rfl):SmOk Tryz.prog sp (rC key):=
 au (s:=rC key) hF hP vv db (smc (jx rfl) (smc (anA rfl) sm0)) Tryz.func90 fn0 aiG (.inl rfl) (bj fun q0 gq0=>bj fun q1 gq1=>fun x18 hp U g=>aic q0 gq0 q1 gq1 x18 U g)
def rF (key:Nat):Sm:=⟨92,key,[.agg kTy,.agg kTy],[.agg kTy],false⟩
def qQ (a:Ty) (b:Ty):List Dt:=d_Ty (ew true a b) ([])
def jJ:List Dt->List Dt
 | [.z x0,.z x1,.z x2,.z x3,.z x4,.z x5,.z x6,.z x7,.z x8,.z x9,.z x10,.z x11,.z x12,.z x13,.z x14,.z x15,.z x16,.z x17]=>qQ ⟨x0,x1,x2,x3,x4,x5,x6,x7,x8⟩ ⟨x9,x10,x11,x12,x13,x14,x15,x16,x17⟩
 | _=>[]
def sT_tcwid:Tr:=
(.call 0 (kTy) (.vs 0 18 (.cb (.tt true) .nil)) 18
(.leaf (.vs 18 9 .nil)))
def zo:Spec:={F:=fun k=>match k with | 0=>jH | _=>fun _=>[],pre:=fun _ _=>True}
theorem aiI:ap tys_SdC [rC 0] [] [] [] 200 Tryz.f92 [.agg kTy,.agg kTy] [.agg kTy] false (v_Ty (v_Ty ([]))) sT_tcwid:=⟨by kernel_rfl,by kernel_rfl,by kernel_rfl⟩
theorem aie (a:Ty) (ha:Ty.ok a) (b:Ty) (hb:Ty.ok b) (U:Env) (g:varsD U 0 (v_Ty (v_Ty ([])))=(d_Ty a (d_Ty b ([])))):sT_tcwid.asks zo (fun U e=>e.D U=jJ (d_Ty a (d_Ty b ([])))) U fun _ _=>False:=by
 simp only[d_Ty,v_Ty,varsD,varD,thm5,gS0,Nat.reduceAdd,and_true] at g
 simp only[sT_tcwid,zo,d_Ty,kTy,jH,qN,jJ,qQ,simQ,af,S1,Nat.reduceSub,Nat.reduceAdd,-eq_self,am,g]
 intro e;(try simp only[e,am,-eq_self]);clear e
 ·rfl
theorem ai7 {sp:Spec} {key:Nat} (hF:sp.F key=jJ) (hP:sp.pre key=fun _=>True:=by rfl):SmOk Tryz.prog sp (rF key):=
 au (s:=rF key) hF hP vv db (smc (ai5 rfl) sm0) Tryz.func92 fn0 aiI (.inl rfl) (bj fun q0 gq0=>bj fun q1 gq1=>fun hp U g=>aie q0 gq0 q1 gq1 U g)
def rE (key:Nat):Sm:=⟨73,key,[.agg kSta,.agg kSta,.one (.fn 92)],[.agg kSta,.one (.int .i64)],true⟩
def qP (a:Sta) (b:Sta):List Dt:=ax (kG true a b) (.z (serr a b)::([]))
def gU:List Dt->List Dt:=cg fun a=>cg fun b=>fun _=>qP a b
def sT_tewid:Tr:=
(.call 0 [.bool] (.vs 0 171 .nil) 342
(.br (.bw 342)
(.call 0 [.bool] (.vs 171 171 .nil) 343
(.br (.bw 343)
(.call 1 (kTy) (.vs 0 9 (.vs 171 9 .nil)) 344
(.call 1 (kTy) (.vs 9 9 (.vs 180 9 .nil)) 353
(.call 1 (kTy) (.vs 18 9 (.vs 189 9 .nil)) 362
(.call 1 (kTy) (.vs 27 9 (.vs 198 9 .nil)) 371
(.call 1 (kTy) (.vs 36 9 (.vs 207 9 .nil)) 380
(.call 1 (kTy) (.vs 45 9 (.vs 216 9 .nil)) 389
(.call 1 (kTy) (.vs 54 9 (.vs 225 9 .nil)) 398
(.call 1 (kTy) (.vs 63 9 (.vs 234 9 .nil)) 407
(.call 1 (kTy) (.vs 72 9 (.vs 243 9 .nil)) 416
(.call 1 (kTy) (.vs 81 9 (.vs 252 9 .nil)) 425
(.call 1 (kTy) (.vs 90 9 (.vs 261 9 .nil)) 434
(.call 1 (kTy) (.vs 99 9 (.vs 270 9 .nil)) 443
(.call 1 (kTy) (.vs 108 9 (.vs 279 9 .nil)) 452
(.call 1 (kTy) (.vs 117 9 (.vs 288 9 .nil)) 461
(.call 1 (kTy) (.vs 126 9 (.vs 297 9 .nil)) 470
(.call 1 (kTy) (.vs 135 9 (.vs 306 9 .nil)) 479
(.call 1 (kTy) (.vs 144 9 (.vs 315 9 .nil)) 488
(.call 1 (kTy) (.vs 153 9 (.vs 324 9 .nil)) 497
(.call 1 (kTy) (.vs 162 9 (.vs 333 9 .nil)) 506
(.leaf (.vs 344 171 (.cons (.lit 0) .nil))))))))))))))))))))))
(.leaf (.zs [0,0,0,0,0,0,0,0,0,0,0,0,0,0,0,0,0,0,0,0,0,0,0,0,0,0,0,0,0,0,0,0,0,0,0,0,0,0,0,0,0,0,0,0,0,0,0,0,0,0,0,0,0,0,0,0,0,0,0,0,0,0,0,0,0,0,0,0,0,0,0,0,0,0,0,0,0,0,0,0,0,0,0,0,0,0,0,0,0,0,0,0,0,0,0,0,0,0,0,0,0,0,0,0,0,0,0,0,0,0,0,0,0,0,0,0,0,0,0,0,0,0,0,0,0,0,0,0,0,0,0,0,0,0,0,0,0,0,0,0,0,0,0,0,0,0,0,0,0,0,0,0,0,0,0,0,0,0,0,0,0,0,0,0,0,0,0,0,0,0,0,2] .nil))))
(.leaf (.zs [0,0,0,0,0,0,0,0,0,0,0,0,0,0,0,0,0,0,0,0,0,0,0,0,0,0,0,0,0,0,0,0,0,0,0,0,0,0,0,0,0,0,0,0,0,0,0,0,0,0,0,0,0,0,0,0,0,0,0,0,0,0,0,0,0,0,0,0,0,0,0,0,0,0,0,0,0,0,0,0,0,0,0,0,0,0,0,0,0,0,0,0,0,0,0,0,0,0,0,0,0,0,0,0,0,0,0,0,0,0,0,0,0,0,0,0,0,0,0,0,0,0,0,0,0,0,0,0,0,0,0,0,0,0,0,0,0,0,0,0,0,0,0,0,0,0,0,0,0,0,0,0,0,0,0,0,0,0,0,0,0,0,0,0,0,0,0,0,0,0,0,2] .nil))))
def zn:Spec:={F:=fun k=>match k with | 0=>eC | 1=>jJ | _=>fun _=>[],pre:=fun _ _=>True}
theorem aiH:ap tys_SdC [nl 0,rF 1] [] [] [] 200 Tryz.f73 [.agg kSta,.agg kSta,.one (.fn 92)] [.agg kSta,.one (.int .i64)] true (bY (bY ([]))) sT_tewid:=⟨by kernel_rfl,by kernel_rfl,by kernel_rfl⟩
theorem aid (a:Sta) (ha:Sta.ok a) (b:Sta) (hb:Sta.ok b) (U:Env) (g:varsD U 0 (bY (bY ([])))=(ax a (ax b ([])))):sT_tewid.asks zn (fun U e=>e.D U=gU (ax a (ax b ([])))) U fun _ _=>False:=by
 simp only[gU,bP,fC,rdZ,rdB]
 simp only[ax,d_Ty,bY,v_Ty,varsD,varD,thm5,gS0,Nat.reduceAdd,and_true] at g
 simp(maxSteps:=10000000) only[sT_tewid,zn,ax,d_Ty,kTy,cg,cH,eC,jJ,mN,qQ,gU,qP,simQ,af,S1,Nat.reduceSub,Nat.reduceAdd,-eq_self,am,g]
 intro e;(try simp only[e,am,-eq_self]);clear e
 constructor<;>intro c0
 intro e;(try simp only[e,am,-eq_self]);clear e
 constructor<;>intro c1
 intro e;(try simp only[e,am,-eq_self]);clear e
 intro e;(try simp only[e,am,-eq_self]);clear e
 intro e;(try simp only[e,am,-eq_self]);clear e
 intro e;(try simp only[e,am,-eq_self]);clear e
 intro e;(try simp only[e,am,-eq_self]);clear e
 intro e;(try simp only[e,am,-eq_self]);clear e
 intro e;(try simp only[e,am,-eq_self]);clear e
 intro e;(try simp only[e,am,-eq_self]);clear e
 intro e;(try simp only[e,am,-eq_self]);clear e
 intro e;(try simp only[e,am,-eq_self]);clear e
 intro e;(try simp only[e,am,-eq_self]);clear e
 intro e;(try simp only[e,am,-eq_self]);clear e
 intro e;(try simp only[e,am,-eq_self]);clear e
 intro e;(try simp only[e,am,-eq_self]);clear e
 intro e;(try simp only[e,am,-eq_self]);clear e
 intro e;(try simp only[e,am,-eq_self]);clear e
 intro e;(try simp only[e,am,-eq_self]);clear e
 intro e;(try simp only[e,am,-eq_self]);clear e
 intro e;(try simp only[e,am,-eq_self]);clear e
 ·rw[(yO c0 c1).1,(yO (w:=true) c0 c1).2];rfl
 ·rw[(ue (.inr c1)).1,(ue (w:=true) (.inr c1)).2];rfl
 ·rw[(ue (.inl c0)).1,(ue (w:=true) (.inl c0)).2];rfl
theorem ai6 {sp:Spec} {key:Nat} (hF:sp.F key=gU) (hP:sp.pre key=fun _=>True:=by rfl):SmOk Tryz.prog sp (rE key):=
 au (s:=rE key) hF hP vv db (smc (xx rfl) (smc (ai7 rfl) sm0)) Tryz.func73 fn0 aiH (.inl rfl) (dq fun q0 gq0=>dq fun q1 gq1=>fun hp U g=>aid q0 gq0 q1 gq1 U g)
def rz (key:Nat):Sm:=⟨40,key,[.agg kSta,.agg kSta],[.agg kSta,.one (.int .i64)],true⟩
def yT (a:Sta) (b:Sta):List Dt:=ax (kG true a b) (.z (serr a b)::([]))
def fv:List Dt->List Dt:=cg fun a=>cg fun b=>fun _=>yT a b
def sT_tswid:Tr:=
(.call 0 (kSta++[.int .i64]) (.vs 0 342 .nil) 342
(.leaf (.vs 342 172 .nil)))
def zj:Spec:={F:=fun k=>match k with | 0=>gU | _=>fun _=>[],pre:=fun _ _=>True}
theorem aiD:ap tys_SdC [rE 0] [] [] [] 200 Tryz.f40 [.agg kSta,.agg kSta] [.agg kSta,.one (.int .i64)] true (bY (bY ([]))) sT_tswid:=⟨by kernel_rfl,by kernel_rfl,by kernel_rfl⟩
theorem ah9 (a:Sta) (ha:Sta.ok a) (b:Sta) (hb:Sta.ok b) (U:Env) (g:varsD U 0 (bY (bY ([])))=(ax a (ax b ([])))):sT_tswid.asks zj (fun U e=>e.D U=fv (ax a (ax b ([])))) U fun _ _=>False:=by
 simp only[fv,bP,fC,rdZ,rdB]
 simp only[ax,d_Ty,bY,v_Ty,varsD,varD,thm5,gS0,Nat.reduceAdd,and_true] at g
 simp(maxSteps:=10000000) only[sT_tswid,zj,ax,d_Ty,kSta,cg,cH,gU,qP,fv,yT,simQ,af,S1,Nat.reduceSub,Nat.reduceAdd,-eq_self,am,g]
 intro e;(try simp only[e,am,-eq_self]);clear e
 ·rfl
theorem ai3 {sp:Spec} {key:Nat} (hF:sp.F key=fv) (hP:sp.pre key=fun _=>True:=by rfl):SmOk Tryz.prog sp (rz key):=
 au (s:=rz key) hF hP vv db (smc (ai6 rfl) sm0) Tryz.func40 fn0 aiD (.inl rfl) (dq fun q0 gq0=>dq fun q1 gq1=>fun hp U g=>ah9 q0 gq0 q1 gq1 U g)
end Go.Proofs.YtfkhblmeioiciaaGreatDoor
