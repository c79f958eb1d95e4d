import Derived.Test.YtfkhblmeioiciaaGreatDoorLiB
import Derived.Test.YtfkhblmeioiciaaGreatDoorProg
import Derived.Laws.Externs
set_option maxRecDepth 100000
set_option maxHeartbeats 8000000
set_option linter.defProp false
set_option linter.unusedVariables false
set_option linter.unusedSimpArgs false
namespace Go.Proofs.YtfkhblmeioiciaaGreatDoor
open Go.RowKit Go.ChangeShapes Go.WideShapes
def tys_LiC:List (Nat×TI):=[(3,tiq3),
 (4,tiq4),
 (22,ac2),
 (24,ac1),
 (37,ig),
 (39,⟨true,9,(zN 9 220090000),[(0,37),(1,37),(2,37),(3,37),(4,4),(5,37),(6,37),(7,3),(8,3)],none,none,false,false,none,24,false,none,false,0⟩)]
theorem acU:(tys_LiC.all fun p=>ckTI Tryz.prog p.1 p.2)=true:=by kernel_rfl
theorem tL:(tys_LiC.all fun p=>!p.2.eqok)=true:=by kernel_rfl
theorem acA:(tys_LiC.all fun p=>!p.2.keyok)=true:=by kernel_rfl
theorem tj:∀t i,(t,i)∈tys_LiC->TIok Tryz.prog t i:=by
 intro t i h
 refine bE (cC (f:=ckTI Tryz.prog) acU h) (fun he=> ?_) (fun he=> ?_) (fun he=> ?_)
 ·have h1:=thm7.1 tL (t,i) h
  simp[he] at h1
 ·have h1:=thm7.1 tL (t,i) h
  simp[he] at h1
 ·have h1:=thm7.1 acA (t,i) h
  simp[he] at h1
def aeZ (key:Nat):Sm:=⟨13,key,[.agg kIns],[.one (.int .i64)],false⟩
def akb (x:Ins):List Dt:=[.z (vrd x)]
def pu:List Dt->List Dt
 | [.z x0,.z x1,.z x2,.z x3,.z x4,.z x5,.z x6,.z x7,.z x8]=>akb ⟨x0,x1,x2,x3,(x4==1),x5,x6,x7,x8⟩
 | _=>[]
def ahl:Tr:=(.leaf (.cons (.bin .shl .i64 (.lit 1) (.var 6)) .nil))
def alm:Tr:=(.leaf (.cons (.bin .or .i64 (.bin .shl .i64 (.lit 1) (.var 5)) (.lit 0)) .nil))
def abU:Tr:=(.leaf (.cons (.bin .or .i64 (.bin .shl .i64 (.lit 1) (.var 5)) (.bin .shl .i64 (.lit 1) (.var 6))) .nil))
def aln:Tr:=(.br (.eq (.var 0) (.lit 5))
(.call 1 [.int .i64] (.cons (.var 8) .nil) 10
(.br (.lt (.bin .add .i64 (.var 10) (.lit 1)) (.lit 0))
.panic
(.leaf (.cons (.bin .sub .i64 (.bin .shl .i64 (.lit 1) (.bin .add .i64 (.var 10) (.lit 1))) (.lit 2)) .nil))))
(.br (.eq (.var 0) (.lit 6))
(.leaf (.cons (.lit 1) .nil))
(.leaf (.cons (.lit 0) .nil))))
def sT_vrd:Tr:=
(.call 0 [.bool] (.vs 0 4 (.cb (.bw 4) (.vs 5 4 .nil))) 9
(.br (.bw 9)
(.br (.lt (.var 5) (.lit 0))
.panic
(.br (.lt (.var 6) (.lit 0))
.panic
(.br (.bw 4)
(.br (.eq (.var 0) (.lit 0))
(.br (.eq (.var 1) (.lit 11))
 ahl
 abU)
(.br (.eq (.var 0) (.lit 1))
 ahl
(.br (.eq (.var 0) (.lit 2))
 abU
(.br (.eq (.var 0) (.lit 3))
 abU
 aln))))
(.br (.eq (.var 0) (.lit 0))
(.br (.eq (.var 1) (.lit 11))
(.leaf (.cons (.lit 0) .nil))
 alm)
(.br (.eq (.var 0) (.lit 1))
 ahl
(.br (.eq (.var 0) (.lit 2))
 abU
(.br (.eq (.var 0) (.lit 3))
 alm
 aln)))))))
(.leaf (.cons (.lit 0) .nil))))
def akd:Spec:={F:=fun k=>match k with | 0=>iT | 1=>jQ | _=>fun _=>[],pre:=fun _ _=>True}
theorem apJ:ap tys_LiC [rH 0,rR 1] [] [] [] 200 Tryz.f13 [.agg kIns] [.one (.int .i64)] false [.int .i8,.int .i8,.int .i8,.int .i8,.bool,.int .i8,.int .i8,.int .i64,.int .i64] sT_vrd:=⟨by kernel_rfl,by kernel_rfl,by kernel_rfl⟩
def cM:=And.intro Ins.eta (Prog.eta)
theorem apm (x:Ins) (hx:Ins.ok x) (U:Env) (g:varsD U 0 [.int .i8,.int .i8,.int .i8,.int .i8,.bool,.int .i8,.int .i8,.int .i64,.int .i64]=[.z x.k,.z x.op,.z x.w,.z x.sz,.z (b2i x.br),.z x.d,.z x.s,.z x.off,.z x.imm]):sT_vrd.asks akd (fun U e=>e.D U=pu [.z x.k,.z x.op,.z x.w,.z x.sz,.z (b2i x.br),.z x.d,.z x.s,.z x.off,.z x.imm]) U fun _ _=>False:=by
 simp only[varsD,varD,thm5,gS0,Nat.reduceAdd,and_true] at g
 simp only[sT_vrd,aln,abU,alm,ahl,akd,iT,jQ,qS,rb,pu,akb,simQ,af,S1,Nat.reduceSub,Nat.reduceAdd,-eq_self,cM,ab,g]
 intro e;(try simp only[e,cM,ab,-eq_self]);clear e
 constructor<;>intro c0
 constructor<;>intro c1
 ·(have q:=pL c0;have z:=ko x.imm;simp[opI,aR] at *;omega)
 constructor<;>intro c2
 ·(have q:=pL c0;have z:=ko x.imm;simp[opI,aR] at *;omega)
 constructor<;>intro c3
 constructor<;>intro c4
 constructor<;>intro c5
 ·(unfold vrd bit1;simp_all)
 ·(unfold vrd bit1;simp_all)
 constructor<;>intro c6
 ·(unfold vrd bit1;simp_all)
 constructor<;>intro c7
 ·(unfold vrd bit1;simp_all)
 constructor<;>intro c8
 ·(unfold vrd bit1;simp_all)
 constructor<;>intro c9
 intro e;(try simp only[e,cM,ab,-eq_self]);clear e
 constructor<;>intro c10
 ·(have q:=pL c0;have z:=ko x.imm;simp[opI,aR] at *;omega)
 ·(unfold vrd bit1;simp_all)
 constructor<;>intro c11
 ·(unfold vrd bit1;simp_all)
 ·(unfold vrd bit1;simp_all)
 constructor<;>intro c12
 constructor<;>intro c13
 ·(unfold vrd bit1;simp_all)
 ·(unfold vrd bit1;simp_all)
 constructor<;>intro c14
 ·(unfold vrd bit1;simp_all)
 constructor<;>intro c15
 ·(unfold vrd bit1;simp_all)
 constructor<;>intro c16
 ·(unfold vrd bit1;simp_all)
 constructor<;>intro c17
 intro e;(try simp only[e,cM,ab,-eq_self]);clear e
 constructor<;>intro c18
 ·(have q:=pL c0;have z:=ko x.imm;simp[opI,aR] at *;omega)
 ·(unfold vrd bit1;simp_all)
 constructor<;>intro c19
 ·(unfold vrd bit1;simp_all)
 ·(unfold vrd bit1;simp_all)
 ·(unfold vrd bit1;simp_all)
theorem ap6 {sp:Spec} {key:Nat} (hF:sp.F key=pu) (hP:sp.pre key=fun _=>True:=by rfl):SmOk Tryz.prog sp (aeZ key):=
 au (s:=aeZ key) hF hP (by kernel_rfl) tj (smc (afn rfl) (smc (ajc rfl) sm0)) Tryz.func13 fn0 apJ (.inl rfl) (fun x0 gx0 x1 gx1 x2 gx2 x3 gx3 x4 x5 gx5 x6 gx6 x7 gx7 x8 gx8 hp U g=>apm ⟨x0,x1,x2,x3,x4,x5,x6,x7,x8⟩ ⟨gx0,gx1,gx2,gx3,gx5,gx6,gx7,gx8⟩ U g)
def nv (key:Nat):Sm:=⟨11,key,[.agg lV],[.one (.int .i64),.one (.int .i64)],true⟩
def uv (pr:Prog):List Dt:=[.z ((bz pr).1),.z ((bz pr).2)]
def jO:List Dt->List Dt
 | [.z x0,.l x1]=>uv ⟨x0,x1⟩
 | _=>[]
def alj:Tr:=(.next 0 (.cons (.bin .add .i64 (.var 4) (.lit 1)) .nil))
def alk:E:=(.get (.lw 1) (.bin .sub .i64 (.len (.lw 1)) (.lit 1)) 0)
def sT_icheck:Tr:=
(.call 0 [.bool] (.cons (.var 0) (.cons (.lit 0) (.cons (.lit 256) .nil))) 2
(.br (.bw 2)
(.call 0 [.bool] (.cons (.bin .sub .i64 (.len (.lw 1)) (.lit 1)) (.cons (.lit 0) (.cons (.lit 63) .nil))) 3
(.br (.bw 3)
(.loop 0 4 [.int .i64] (.cons (.lit 0) .nil)
(.br (.lt (.var 4) (.len (.lw 1)))
(.br (.lt (.var 4) (.lit 0))
.panic
(.call 1 [.bool] (.ins (.lw 1) (.var 4) .nil) 5
(.br (.bw 5)
(.call 2 [.int .i64,.bool] (.cons (.var 4) (.ins (.lw 1) (.var 4) .nil)) 6
(.br (.bw 7)
(.call 0 [.bool] (.cons (.var 6) (.cons (.lit 0) (.cons (.bin .sub .i64 (.len (.lw 1)) (.lit 1)) .nil))) 8
(.br (.bw 8)
 alj
(.leaf (.cons (.var 4) (.cons (.lit 32) .nil)))))
 alj))
(.leaf (.cons (.var 4) (.cons (.lit 31) .nil))))))
(.br (.lt (.bin .sub .i64 (.len (.lw 1)) (.lit 1)) (.lit 0))
.panic
(.br (.lt (.bin .sub .i64 (.len (.lw 1)) (.lit 1)) (.len (.lw 1)))
(.br (.eq alk (.lit 4))
(.leaf (.cons (.lit 0) (.cons (.lit 0) .nil)))
(.br (.eq alk (.lit 6))
(.leaf (.cons (.lit 0) (.cons (.lit 0) .nil)))
(.leaf (.cons (.bin .sub .i64 (.len (.lw 1)) (.lit 1)) (.cons (.lit 33) .nil)))))
.panic))))
(.leaf (.cons (.lit 0) (.cons (.lit 3) .nil)))))
(.leaf (.cons (.lit 0) (.cons (.lit 2) .nil)))))
def uH:Spec:={F:=fun k=>match k with | 0=>eX | 1=>iT | 2=>gq | _=>fun _=>[],pre:=fun _ _=>True}
theorem aei:ap tys_LiC [nu 0,rH 1,rO 2] [] [(7,[.tmpI 26 .i64]++tps [(2,2),(5,4),(27,23)])] [] 200 Tryz.f11 [.agg lV] [.one (.int .i64),.one (.int .i64)] true [.int .i64,.list (kN 9 220090000)] sT_icheck:=⟨by kernel_rfl,by kernel_rfl,by kernel_rfl⟩
def fY:List Dt->Prop
 | [.z x0,.l x1]=>let f (pr:Prog):Prop:=pr.l.length<=maxLen;f ⟨x0,x1⟩
 | _=>False
theorem adM (pr:Prog) (hpr:Prog.ok pr) (hp:fY [.z pr.ctx,.l pr.l]) (U:Env) (g:varsD U 0 [.int .i64,.list (kN 9 220090000)]=[.z pr.ctx,.l pr.l]):sT_icheck.asks uH (fun U e=>e.D U=jO [.z pr.ctx,.l pr.l]) U fun _ _=>False:=by
 simp only[fY,b2i_one,cM,ab] at hp
 have keepg:=g
 simp only[varsD,varD,thm5,gS0,Nat.reduceAdd,and_true] at g
 simp only[sT_icheck,alk,alj,uH,eX,iT,gq,mT,qS,wQ,jO,uv,simQ,af,S1,Nat.reduceSub,Nat.reduceAdd,-eq_self,cM,ab,g]
 intro e;(try simp only[e,cM,ab,-eq_self]);clear e
 constructor<;>intro c0
 intro e;(try simp only[e,cM,ab,-eq_self]);clear e
 constructor<;>intro c1
 refine⟨fun ds=>∃n:Nat,ds=[.z (n:Int)]/\n<=pr.l.length/\(scan pr pr.l.length 0=scan pr (pr.l.length-n) n),fun ds=>(pr.l.length-(dI ds 0).toNat),⟨0,rfl,Nat.zero_le _,rfl⟩,?_⟩
 intro U1 ha1 _ hi1
 obtain⟨n,hds,r1,r2⟩:=hi1
 simp only[thm5,Dt.z.injEq,and_true] at hds
 have g1:=(ql ha1 _ 0 (by decide)).trans keepg
 simp only[varsD,varD,thm5,gS0,Nat.reduceAdd,and_true] at g1
 simp only[g1,hds,ab,-eq_self]
 constructor<;>intro c2
 constructor<;>intro c3
 ·exact absurd (thm3 c3) (by omega)
 intro e;(try simp only[e,cM,ab,-eq_self]);clear e
 constructor<;>intro c4
 intro e;(try simp only[e,cM,ab,-eq_self]);clear e
 constructor<;>intro c5
 intro e;(try simp only[e,cM,ab,-eq_self]);clear e
 constructor<;>intro c6
 ·exact⟨⟨n+1,by rw[addN (Int.ofNat_lt.1 (thm3 c2)) hp],Int.ofNat_lt.1 (thm3 c2),r2.trans (ug (Int.ofNat_lt.1 (thm3 c2)) (aaN c4 (.inr c6)))⟩,by rw[addN (Int.ofNat_lt.1 (thm3 c2)) hp];have:=Int.ofNat_lt.1 (thm3 c2);show pr.l.length-(((n+1:Nat):Int)).toNat<pr.l.length-((n:Int)).toNat;omega⟩
 ·rw[pO c0 c1 r2 (Int.ofNat_lt.1 (thm3 c2)) (aaM c4 c5 c6)];try rfl
 ·exact⟨⟨n+1,by rw[addN (Int.ofNat_lt.1 (thm3 c2)) hp],Int.ofNat_lt.1 (thm3 c2),r2.trans (ug (Int.ofNat_lt.1 (thm3 c2)) (aaN c4 (.inl c5)))⟩,by rw[addN (Int.ofNat_lt.1 (thm3 c2)) hp];have:=Int.ofNat_lt.1 (thm3 c2);show pr.l.length-(((n+1:Nat):Int)).toNat<pr.l.length-((n:Int)).toNat;omega⟩
 ·rw[pO c0 c1 r2 (Int.ofNat_lt.1 (thm3 c2)) (vZ c4)];try rfl
 constructor<;>intro c7
 ·have q:=xR c1 hp
  have w:=thm3 c7
  unfold Prog.last at q
  omega
 constructor<;>intro c8
 constructor<;>intro c9
 ·rw[lb c0 c1 r2 (by have:=thm2 c2;omega),if_pos (.inl (eqI c9))];try rfl
 constructor<;>intro c10
 ·rw[lb c0 c1 r2 (by have:=thm2 c2;omega),if_pos (.inr (eqI c10))];try rfl
 ·rw[lb c0 c1 r2 (by have:=thm2 c2;omega),if_neg (fun h=>h.elim (neI c9) (neI c10))];try rfl
 ·have q:=xR c1 hp
  have w:=thm2 c8
  unfold Prog.last at q
  omega
 ·rw[abr c0 c1];try rfl
 ·rw[pN c0];try rfl
theorem afv {sp:Spec} {key:Nat} (hF:sp.F key=jO) (hP:sp.pre key=fY):SmOk Tryz.prog sp (nv key):=
 au (s:=nv key) hF hP (by kernel_rfl) tj (smc (uO rfl) (smc (afn rfl) (smc (afu rfl) sm0))) Tryz.func11 fn0 aei (.inr (.inl ⟨(fun xs h L hL=>by unfold fY at h;split at h<;>first | exact h.elim | (simp at hL;subst hL;exact h)),rfl⟩)) (fun x0 gx0 x1 gx1 hp U g=>adM ⟨x0,x1⟩ ⟨gx0,gx1⟩ hp U g)
end Go.Proofs.YtfkhblmeioiciaaGreatDoor
