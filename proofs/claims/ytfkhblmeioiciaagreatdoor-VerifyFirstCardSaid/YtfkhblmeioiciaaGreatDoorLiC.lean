import Derived.Test.YtfkhblmeioiciaaGreatDoorLiB
import Derived.Test.YtfkhblmeioiciaaGreatDoorProg
import Derived.Laws.Externs
set_option maxRecDepth 100000
set_option maxHeartbeats 8000000
set_option linter.unusedVariables false
set_option linter.unusedSimpArgs false
namespace Go.Proofs.YtfkhblmeioiciaaGreatDoor
open Go.RowKit Go.ChangeShapes Go.WideShapes
def tys_LiC:List (Nat×TI):=[(3,⟨false,1,[.int .i64 (.lit 0)],[],none,some .i64,false,false,none,8,false,none,false,0⟩),
 (4,⟨false,1,[.bool (.tt false)],[],none,none,false,true,none,1,false,none,false,0⟩),
 (22,⟨false,1,[.nsl],[],none,none,false,false,some 39,24,false,none,false,0⟩),
 (24,⟨true,2,[.int .i64 (.lit 0),.nsl],[(0,3),(1,22)],none,none,false,false,none,32,false,none,false,0⟩),
 (37,⟨false,1,[.int .i8 (.lit 0)],[],none,some .i8,false,false,none,1,false,none,false,0⟩),
 (39,⟨true,9,(zN 9 220090000),[(0,37),(1,37),(2,37),(3,37),(4,4),(5,37),(6,37),(7,3),(8,3)],none,none,false,false,none,24,false,none,false,0⟩)]
theorem acz:(tys_LiC.all fun p=>ckTI Tryz.prog p.1 p.2)=true:=by kernel_rfl
theorem tf:(tys_LiC.all fun p=>!p.2.eqok)=true:=by kernel_rfl
theorem acf:(tys_LiC.all fun p=>!p.2.keyok)=true:=by kernel_rfl
theorem sK:∀t i,(t,i)∈tys_LiC->TIok Tryz.prog t i:=by
 intro t i h
 refine bC (cz (f:=ckTI Tryz.prog) acz h) (fun he=> ?_) (fun he=> ?_) (fun he=> ?_)
 ·have h1:=thm7.1 tf (t,i) h
  simp[he] at h1
 ·have h1:=thm7.1 tf (t,i) h
  simp[he] at h1
 ·have h1:=thm7.1 acf (t,i) h
  simp[he] at h1
def zd (key:Nat):Sm:=⟨13,key,[.agg kIns],[.one (.int .i64)],false⟩
def adu (x:Ins):List Dt:=[.z (vrd x)]
def lk:List Dt->List Dt
 | [.z x0,.z x1,.z x2,.z x3,.z x4,.z x5,.z x6,.z x7,.z x8]=>adu ⟨x0,x1,x2,x3,(x4==1),x5,x6,x7,x8⟩
 | _=>[]
def sT_vrd:Tr:=
(.call 0 [.bool] (.vs 0 4 (.consb (.bvar 4) (.vs 5 4 .nil))) 9
(.br (.bvar 9)
(.br (.lt (.var 5) (.lit 0))
.panic
(.br (.lt (.var 6) (.lit 0))
.panic
(.br (.bvar 4)
(.br (.eq (.var 0) (.lit 0))
(.br (.eq (.var 1) (.lit 11))
(.leaf (.cons (.bin .shl .i64 (.lit 1) (.var 6)) .nil))
(.leaf (.cons (.bin .or .i64 (.bin .shl .i64 (.lit 1) (.var 5)) (.bin .shl .i64 (.lit 1) (.var 6))) .nil)))
(.br (.eq (.var 0) (.lit 1))
(.leaf (.cons (.bin .shl .i64 (.lit 1) (.var 6)) .nil))
(.br (.eq (.var 0) (.lit 2))
(.leaf (.cons (.bin .or .i64 (.bin .shl .i64 (.lit 1) (.var 5)) (.bin .shl .i64 (.lit 1) (.var 6))) .nil))
(.br (.eq (.var 0) (.lit 3))
(.leaf (.cons (.bin .or .i64 (.bin .shl .i64 (.lit 1) (.var 5)) (.bin .shl .i64 (.lit 1) (.var 6))) .nil))
(.br (.eq (.var 0) (.lit 5))
(.call 1 [.int .i64] (.cons (.var 8) .nil) 10
(.br (.lt (.bin .add .i64 (.var 10) (.lit 1)) (.lit 0))
.panic
(.leaf (.cons (.bin .sub .i64 (.bin .shl .i64 (.lit 1) (.bin .add .i64 (.var 10) (.lit 1))) (.lit 2)) .nil))))
(.br (.eq (.var 0) (.lit 6))
(.leaf (.cons (.lit 1) .nil))
(.leaf (.cons (.lit 0) .nil))))))))
(.br (.eq (.var 0) (.lit 0))
(.br (.eq (.var 1) (.lit 11))
(.leaf (.cons (.lit 0) .nil))
(.leaf (.cons (.bin .or .i64 (.bin .shl .i64 (.lit 1) (.var 5)) (.lit 0)) .nil)))
(.br (.eq (.var 0) (.lit 1))
(.leaf (.cons (.bin .shl .i64 (.lit 1) (.var 6)) .nil))
(.br (.eq (.var 0) (.lit 2))
(.leaf (.cons (.bin .or .i64 (.bin .shl .i64 (.lit 1) (.var 5)) (.bin .shl .i64 (.lit 1) (.var 6))) .nil))
(.br (.eq (.var 0) (.lit 3))
(.leaf (.cons (.bin .or .i64 (.bin .shl .i64 (.lit 1) (.var 5)) (.lit 0)) .nil))
(.br (.eq (.var 0) (.lit 5))
(.call 1 [.int .i64] (.cons (.var 8) .nil) 10
(.br (.lt (.bin .add .i64 (.var 10) (.lit 1)) (.lit 0))
.panic
(.leaf (.cons (.bin .sub .i64 (.bin .shl .i64 (.lit 1) (.bin .add .i64 (.var 10) (.lit 1))) (.lit 2)) .nil))))
(.br (.eq (.var 0) (.lit 6))
(.leaf (.cons (.lit 1) .nil))
(.leaf (.cons (.lit 0) .nil)))))))))))
(.leaf (.cons (.lit 0) .nil))))
def ajy:Spec:={F:=fun k=>match k with | 0=>iC | 1=>jB | _=>fun _=>[],pre:=fun k=>match k with | _=>fun _=>True}
theorem aon:aq tys_LiC [rk 0,rA 1] [] [] [] 200 Tryz.f13 [.agg kIns] [.one (.int .i64)] false [.int .i8,.int .i8,.int .i8,.int .i8,.bool,.int .i8,.int .i8,.int .i64,.int .i64] sT_vrd:=⟨by kernel_rfl,by kernel_rfl,by kernel_rfl⟩
set_option linter.defProp false in
def cI:=And.intro Ins.eta (Prog.eta)
theorem an1 (x:Ins) (hx:Ins.ok x) (U:Env) (g:ab U 0 [.int .i8,.int .i8,.int .i8,.int .i8,.bool,.int .i8,.int .i8,.int .i64,.int .i64]=[.z x.k,.z x.op,.z x.w,.z x.sz,.z (b2i x.br),.z x.d,.z x.s,.z x.off,.z x.imm]):sT_vrd.asks ajy (fun U e=>e.D U=lk [.z x.k,.z x.op,.z x.w,.z x.sz,.z (b2i x.br),.z x.d,.z x.s,.z x.off,.z x.imm]) U fun _ _=>False:=by
 simp only[ab,varD,thm5,Dt.z.injEq,Dt.l.injEq,b2i_eq_iff,Nat.reduceAdd,and_true] at g
 simp only[sT_vrd,ajy,iC,jB,qC,qL,lk,adu,Tr.asks,ah,okDs,okD,eqs,E.I,E.B,E.L,E.R,E.D,E.vs,E.gs,E.ins,E.sv,E.tn,E.iv,E.zs,E.zr,E.sg,E.tg,E.rg,E.rgs,E.pv,Nat.reduceSub,dI,dB,dL,varD,ab,S1,Nat.reduceAdd,-eq_self,cI,ae,g]
 intro e; (try simp only[e,cI,ae,-eq_self]); clear e
 constructor<;>intro c0
 constructor<;>intro c1
 ·(have q:=px c0; have z:=jS x.imm; simp[opI,aU] at *; omega)
 constructor<;>intro c2
 ·(have q:=px c0; have z:=jS x.imm; simp[opI,aU] at *; omega)
 constructor<;>intro c3
 constructor<;>intro c4
 constructor<;>intro c5
 ·(unfold vrd bit1; simp_all)
 ·(unfold vrd bit1; simp_all)
 constructor<;>intro c6
 ·(unfold vrd bit1; simp_all)
 constructor<;>intro c7
 ·(unfold vrd bit1; simp_all)
 constructor<;>intro c8
 ·(unfold vrd bit1; simp_all)
 constructor<;>intro c9
 intro e; (try simp only[e,cI,ae,-eq_self]); clear e
 constructor<;>intro c10
 ·(have q:=px c0; have z:=jS x.imm; simp[opI,aU] at *; omega)
 ·(unfold vrd bit1; simp_all)
 constructor<;>intro c11
 ·(unfold vrd bit1; simp_all)
 ·(unfold vrd bit1; simp_all)
 constructor<;>intro c12
 constructor<;>intro c13
 ·(unfold vrd bit1; simp_all)
 ·(unfold vrd bit1; simp_all)
 constructor<;>intro c14
 ·(unfold vrd bit1; simp_all)
 constructor<;>intro c15
 ·(unfold vrd bit1; simp_all)
 constructor<;>intro c16
 ·(unfold vrd bit1; simp_all)
 constructor<;>intro c17
 intro e; (try simp only[e,cI,ae,-eq_self]); clear e
 constructor<;>intro c18
 ·(have q:=px c0; have z:=jS x.imm; simp[opI,aU] at *; omega)
 ·(unfold vrd bit1; simp_all)
 constructor<;>intro c19
 ·(unfold vrd bit1; simp_all)
 ·(unfold vrd bit1; simp_all)
 ·(unfold vrd bit1; simp_all)
theorem ajR {sp:Spec} {key:Nat} (hF:sp.F key=lk) (hP:sp.pre key=fun _=>True:=by rfl):SmOk Tryz.prog sp (zd key):=
 av (s:=zd key) hF hP (by kernel_rfl) sK (smc (aeX rfl) (smc (aiA rfl) sm0)) Tryz.func13 fn0 aon (.inl rfl) (fun x0 gx0 x1 gx1 x2 gx2 x3 gx3 x4 x5 gx5 x6 gx6 x7 gx7 x8 gx8 hp U g=>an1 ⟨x0,x1,x2,x3,x4,x5,x6,x7,x8⟩ ⟨gx0,gx1,gx2,gx3,gx5,gx6,gx7,gx8⟩ U g)
def jf (key:Nat):Sm:=⟨11,key,[.agg lH],[.one (.int .i64),.one (.int .i64)],true⟩
def mI (pr:Prog):List Dt:=[.z ((bA pr).1),.z ((bA pr).2)]
def eK:List Dt->List Dt
 | [.z x0,.l x1]=>mI ⟨x0,x1⟩
 | _=>[]
def sT_icheck:Tr:=
(.call 0 [.bool] (.cons (.var 0) (.cons (.lit 0) (.cons (.lit 256) .nil))) 2
(.br (.bvar 2)
(.call 0 [.bool] (.cons (.bin .sub .i64 (.len (.lvar 1)) (.lit 1)) (.cons (.lit 0) (.cons (.lit 63) .nil))) 3
(.br (.bvar 3)
(.loop 0 4 [.int .i64] (.cons (.lit 0) .nil)
(.br (.lt (.var 4) (.len (.lvar 1)))
(.br (.lt (.var 4) (.lit 0))
.panic
(.call 1 [.bool] (.ins (.lvar 1) (.var 4) .nil) 5
(.br (.bvar 5)
(.call 2 [.int .i64,.bool] (.cons (.var 4) (.ins (.lvar 1) (.var 4) .nil)) 6
(.br (.bvar 7)
(.call 0 [.bool] (.cons (.var 6) (.cons (.lit 0) (.cons (.bin .sub .i64 (.len (.lvar 1)) (.lit 1)) .nil))) 8
(.br (.bvar 8)
(.next 0 (.cons (.bin .add .i64 (.var 4) (.lit 1)) .nil))
(.leaf (.cons (.var 4) (.cons (.lit 32) .nil)))))
(.next 0 (.cons (.bin .add .i64 (.var 4) (.lit 1)) .nil))))
(.leaf (.cons (.var 4) (.cons (.lit 31) .nil))))))
(.br (.lt (.bin .sub .i64 (.len (.lvar 1)) (.lit 1)) (.lit 0))
.panic
(.br (.lt (.bin .sub .i64 (.len (.lvar 1)) (.lit 1)) (.len (.lvar 1)))
(.br (.eq (.get (.lvar 1) (.bin .sub .i64 (.len (.lvar 1)) (.lit 1)) 0) (.lit 4))
(.leaf (.cons (.lit 0) (.cons (.lit 0) .nil)))
(.br (.eq (.get (.lvar 1) (.bin .sub .i64 (.len (.lvar 1)) (.lit 1)) 0) (.lit 6))
(.leaf (.cons (.lit 0) (.cons (.lit 0) .nil)))
(.leaf (.cons (.bin .sub .i64 (.len (.lvar 1)) (.lit 1)) (.cons (.lit 33) .nil)))))
.panic))))
(.leaf (.cons (.lit 0) (.cons (.lit 3) .nil)))))
(.leaf (.cons (.lit 0) (.cons (.lit 2) .nil)))))
def uf:Spec:={F:=fun k=>match k with | 0=>eJ | 1=>iC | 2=>fV | _=>fun _=>[],pre:=fun k=>match k with | _=>fun _=>True}
theorem adT:aq tys_LiC [ng 0,rk 1,rv 2] [] [(7,[.tmpI 26 .i64,.top 27,.top 28,.top 29,.top 30,.top 6,.top 5,.top 31,.top 32,.top 33,.top 34,.top 2,.top 3,.top 36,.top 37,.top 38,.top 35,.top 39,.top 40,.top 7,.top 8,.top 41,.top 42,.top 43,.top 44,.top 45,.top 46,.top 47,.top 48,.top 49])] [] 200 Tryz.f11 [.agg lH] [.one (.int .i64),.one (.int .i64)] true [.int .i64,.list (kN 9 220090000)] sT_icheck:=⟨by kernel_rfl,by kernel_rfl,by kernel_rfl⟩
def dC:List Dt->Prop
 | [.z x0,.l x1]=>let f (pr:Prog):Prop:=pr.l.length<=maxLen; f ⟨x0,x1⟩
 | _=>False
theorem adn (pr:Prog) (hpr:Prog.ok pr) (hp:dC [.z pr.ctx,.l pr.l]) (U:Env) (g:ab U 0 [.int .i64,.list (kN 9 220090000)]=[.z pr.ctx,.l pr.l]):sT_icheck.asks uf (fun U e=>e.D U=eK [.z pr.ctx,.l pr.l]) U fun _ _=>False:=by
 simp only[dC,b2i_one,cI,ae] at hp
 have keepg:=g
 simp only[ab,varD,thm5,Dt.z.injEq,Dt.l.injEq,b2i_eq_iff,Nat.reduceAdd,and_true] at g
 simp only[sT_icheck,uf,eJ,iC,fV,mH,qC,wt,eK,mI,Tr.asks,ah,okDs,okD,eqs,E.I,E.B,E.L,E.R,E.D,E.vs,E.gs,E.ins,E.sv,E.tn,E.iv,E.zs,E.zr,E.sg,E.tg,E.rg,E.rgs,E.pv,Nat.reduceSub,dI,dB,dL,varD,ab,S1,Nat.reduceAdd,-eq_self,cI,ae,g]
 intro e; (try simp only[e,cI,ae,-eq_self]); clear e
 constructor<;>intro c0
 intro e; (try simp only[e,cI,ae,-eq_self]); clear e
 constructor<;>intro c1
 refine⟨fun ds=>∃n:Nat,ds=[.z (n:Int)]/\n<=pr.l.length/\(scan pr pr.l.length 0=scan pr (pr.l.length-n) n),fun ds=>(pr.l.length-(dI ds 0).toNat),⟨0,rfl,Nat.zero_le _,rfl⟩,?_⟩
 intro U1 ha1 _ hi1
 obtain⟨n,hds,r1,r2⟩:=hi1
 simp only[thm5,Dt.z.injEq,and_true] at hds
 have g1:=(pS ha1 _ 0 (by decide)).trans keepg
 simp only[ab,varD,thm5,Dt.z.injEq,Dt.l.injEq,b2i_eq_iff,Nat.reduceAdd,and_true] at g1
 simp only[g1,hds,ae,-eq_self]
 constructor<;>intro c2
 constructor<;>intro c3
 ·exact absurd (thm3 c3) (by omega)
 intro e; (try simp only[e,cI,ae,-eq_self]); clear e
 constructor<;>intro c4
 intro e; (try simp only[e,cI,ae,-eq_self]); clear e
 constructor<;>intro c5
 intro e; (try simp only[e,cI,ae,-eq_self]); clear e
 constructor<;>intro c6
 ·exact⟨⟨n+1,by rw[addN (Int.ofNat_lt.1 (thm3 c2)) hp],Int.ofNat_lt.1 (thm3 c2),r2.trans (tN (Int.ofNat_lt.1 (thm3 c2)) (aau c4 (.inr c6)))⟩,by rw[addN (Int.ofNat_lt.1 (thm3 c2)) hp]; have:=Int.ofNat_lt.1 (thm3 c2); show pr.l.length-(((n+1:Nat):Int)).toNat<pr.l.length-((n:Int)).toNat; omega⟩
 ·rw[py c0 c1 r2 (Int.ofNat_lt.1 (thm3 c2)) (aat c4 c5 c6)]; try rfl
 ·exact⟨⟨n+1,by rw[addN (Int.ofNat_lt.1 (thm3 c2)) hp],Int.ofNat_lt.1 (thm3 c2),r2.trans (tN (Int.ofNat_lt.1 (thm3 c2)) (aau c4 (.inl c5)))⟩,by rw[addN (Int.ofNat_lt.1 (thm3 c2)) hp]; have:=Int.ofNat_lt.1 (thm3 c2); show pr.l.length-(((n+1:Nat):Int)).toNat<pr.l.length-((n:Int)).toNat; omega⟩
 ·rw[py c0 c1 r2 (Int.ofNat_lt.1 (thm3 c2)) (vE c4)]; try rfl
 constructor<;>intro c7
 ·have q:=xv c1 hp
  have w:=thm3 c7
  unfold Prog.last at q
  omega
 constructor<;>intro c8
 constructor<;>intro c9
 ·rw[kO c0 c1 r2 (by have:=thm2 c2; omega),if_pos (.inl (eqI c9))]; try rfl
 constructor<;>intro c10
 ·rw[kO c0 c1 r2 (by have:=thm2 c2; omega),if_pos (.inr (eqI c10))]; try rfl
 ·rw[kO c0 c1 r2 (by have:=thm2 c2; omega),if_neg (fun h=>h.elim (neI c9) (neI c10))]; try rfl
 ·have q:=xv c1 hp
  have w:=thm2 c8
  unfold Prog.last at q
  omega
 ·rw[aba c0 c1]; try rfl
 ·rw[abb c0]; try rfl
theorem ur {sp:Spec} {key:Nat} (hF:sp.F key=eK) (hP:sp.pre key=dC):SmOk Tryz.prog sp (jf key):=
 av (s:=jf key) hF hP (by kernel_rfl) sK (smc (uq rfl) (smc (aeX rfl) (smc (ae4 rfl) sm0))) Tryz.func11 fn0 adT (.inr (.inl ⟨(fun xs h L hL=>by unfold dC at h; split at h<;>first | exact h.elim | (simp at hL; subst hL; exact h)),rfl⟩)) (fun x0 gx0 x1 gx1 hp U g=>adn ⟨x0,x1⟩ ⟨gx0,gx1⟩ hp U g)
end Go.Proofs.YtfkhblmeioiciaaGreatDoor
