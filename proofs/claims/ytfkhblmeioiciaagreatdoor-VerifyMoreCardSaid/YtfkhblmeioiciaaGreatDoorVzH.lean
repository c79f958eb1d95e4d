import Derived.Test.YtfkhblmeioiciaaGreatDoorVzE
import Derived.Test.YtfkhblmeioiciaaGreatDoorVzC
import Derived.Test.YtfkhblmeioiciaaGreatDoorVzN
import Derived.Test.YtfkhblmeioiciaaGreatDoorLiQ
import Derived.Test.YtfkhblmeioiciaaGreatDoorProg
import Derived.Laws.Externs
set_option maxRecDepth 100000
set_option maxHeartbeats 8000000
set_option linter.defProp false
set_option linter.unusedVariables false
set_option linter.unusedSimpArgs false
namespace Go.Proofs.YtfkhblmeioiciaaGreatDoor
open Go.RowKit Go.ChangeShapes Go.WideShapes
def kSt:List CE:=[some Go.IntKind.i8,some Go.IntKind.u64,some Go.IntKind.u64,some Go.IntKind.i64,some Go.IntKind.i64,some Go.IntKind.u64,some Go.IntKind.u64,some Go.IntKind.i64,some Go.IntKind.i64,some Go.IntKind.i8,some Go.IntKind.u64,some Go.IntKind.u64,some Go.IntKind.i64,some Go.IntKind.i64,some Go.IntKind.u64,some Go.IntKind.u64,some Go.IntKind.i64,some Go.IntKind.i64,some Go.IntKind.i8,some Go.IntKind.u64,some Go.IntKind.u64,some Go.IntKind.i64,some Go.IntKind.i64,some Go.IntKind.u64,some Go.IntKind.u64,some Go.IntKind.i64,some Go.IntKind.i64,some Go.IntKind.i8,some Go.IntKind.u64,some Go.IntKind.u64,some Go.IntKind.i64,some Go.IntKind.i64,some Go.IntKind.u64,some Go.IntKind.u64,some Go.IntKind.i64,some Go.IntKind.i64,some Go.IntKind.i8,some Go.IntKind.u64,some Go.IntKind.u64,some Go.IntKind.i64,some Go.IntKind.i64,some Go.IntKind.u64,some Go.IntKind.u64,some Go.IntKind.i64,some Go.IntKind.i64,some Go.IntKind.i8,some Go.IntKind.u64,some Go.IntKind.u64,some Go.IntKind.i64,some Go.IntKind.i64,some Go.IntKind.u64,some Go.IntKind.u64,some Go.IntKind.i64,some Go.IntKind.i64,some Go.IntKind.i8,some Go.IntKind.u64,some Go.IntKind.u64,some Go.IntKind.i64,some Go.IntKind.i64,some Go.IntKind.u64,some Go.IntKind.u64,some Go.IntKind.i64,some Go.IntKind.i64,some Go.IntKind.i8,some Go.IntKind.u64,some Go.IntKind.u64,some Go.IntKind.i64,some Go.IntKind.i64,some Go.IntKind.u64,some Go.IntKind.u64,some Go.IntKind.i64,some Go.IntKind.i64,some Go.IntKind.i8,some Go.IntKind.u64,some Go.IntKind.u64,some Go.IntKind.i64,some Go.IntKind.i64,some Go.IntKind.u64,some Go.IntKind.u64,some Go.IntKind.i64,some Go.IntKind.i64,some Go.IntKind.i8,some Go.IntKind.u64,some Go.IntKind.u64,some Go.IntKind.i64,some Go.IntKind.i64,some Go.IntKind.u64,some Go.IntKind.u64,some Go.IntKind.i64,some Go.IntKind.i64,some Go.IntKind.i8,some Go.IntKind.u64,some Go.IntKind.u64,some Go.IntKind.i64,some Go.IntKind.i64,some Go.IntKind.u64,some Go.IntKind.u64,some Go.IntKind.i64,some Go.IntKind.i64,some Go.IntKind.i8,some Go.IntKind.u64,some Go.IntKind.u64,some Go.IntKind.i64,some Go.IntKind.i64,some Go.IntKind.u64,some Go.IntKind.u64,some Go.IntKind.i64,some Go.IntKind.i64,some Go.IntKind.i8,some Go.IntKind.u64,some Go.IntKind.u64,some Go.IntKind.i64,some Go.IntKind.i64,some Go.IntKind.u64,some Go.IntKind.u64,some Go.IntKind.i64,some Go.IntKind.i64,some Go.IntKind.i8,some Go.IntKind.u64,some Go.IntKind.u64,some Go.IntKind.i64,some Go.IntKind.i64,some Go.IntKind.u64,some Go.IntKind.u64,some Go.IntKind.i64,some Go.IntKind.i64,some Go.IntKind.i8,some Go.IntKind.u64,some Go.IntKind.u64,some Go.IntKind.i64,some Go.IntKind.i64,some Go.IntKind.u64,some Go.IntKind.u64,some Go.IntKind.i64,some Go.IntKind.i64,some Go.IntKind.i8,some Go.IntKind.u64,some Go.IntKind.u64,some Go.IntKind.i64,some Go.IntKind.i64,some Go.IntKind.u64,some Go.IntKind.u64,some Go.IntKind.i64,some Go.IntKind.i64,some Go.IntKind.i8,some Go.IntKind.u64,some Go.IntKind.u64,some Go.IntKind.i64,some Go.IntKind.i64,some Go.IntKind.u64,some Go.IntKind.u64,some Go.IntKind.i64,some Go.IntKind.i64,some Go.IntKind.i8,some Go.IntKind.u64,some Go.IntKind.u64,some Go.IntKind.i64,some Go.IntKind.i64,some Go.IntKind.u64,some Go.IntKind.u64,some Go.IntKind.i64,some Go.IntKind.i64,some Go.IntKind.i8,some Go.IntKind.u64,some Go.IntKind.u64,some Go.IntKind.i64,some Go.IntKind.i64,some Go.IntKind.u64,some Go.IntKind.u64,some Go.IntKind.i64,some Go.IntKind.i64]
def tys_VzH:List (Nat×TI):=[(2,tiq2),
 (3,tiq3),
 (4,tiq4),
 (22,ac2),
 (24,ac1),
 (27,ahA),
 (30,alV),
 (31,alU),
 (33,alT),
 (37,ig),
 (39,aaW),
 (42,fP),
 (44,ic),
 (46,kD),
 (48,dW),
 (50,tO),
 (51,wk),
 (52,wj),
 (54,yA)]
theorem acJ:(tys_VzH.all fun p=>ckTI Tryz.prog p.1 p.2)=true:=by kernel_rfl
theorem tA:(tys_VzH.all fun p=>!p.2.eqok||((Nat.beq p.1 39&&aX p.2.zero oY)||(Nat.beq p.1 48&&aX p.2.zero z_Sc)||(Nat.beq p.1 50&&aX p.2.zero z_Ty)||(Nat.beq p.1 54&&aX p.2.zero aaP)))=true:=by kernel_rfl
theorem acp:(tys_VzH.all fun p=>!p.2.keyok)=true:=by kernel_rfl
theorem ach:∀t i,(t,i)∈tys_VzH->TIok Tryz.prog t i:=by
 intro t i h
 refine bE (cC (f:=ckTI Tryz.prog) acJ h) (fun he=> ?_) (fun he=> ?_) (fun he=> ?_)
 ·have h1:=thm7.1 tA (t,i) h
  simp only[he,Bool.not_true,Bool.false_or,bG,thm0] at h1
  rcases h1 with((h1 | h1) | h1) | h1
  ·have hs:=h1.2
   obtain rfl:=thm1 h1.1
   exact fun vs us hv hu=>pV vs us (ar hs hv) (ar hs hu)
  ·have hs:=h1.2
   obtain rfl:=thm1 h1.1
   exact fun vs us hv hu=>vK vs us (ar hs hv) (ar hs hu)
  ·have hs:=h1.2
   obtain rfl:=thm1 h1.1
   exact fun vs us hv hu=>vJ vs us (ar hs hv) (ar hs hu)
  ·have hs:=h1.2
   obtain rfl:=thm1 h1.1
   exact fun vs us hv hu=>akX vs us (ar hs hv) (ar hs hu)
 ·have h1:=thm7.1 tA (t,i) h
  simp only[he,Bool.not_true,Bool.false_or,bG,thm0] at h1
  rcases h1 with((h1 | h1) | h1) | h1
  ·have hs:=h1.2
   obtain rfl:=thm1 h1.1
   exact lc
  ·have hs:=h1.2
   obtain rfl:=thm1 h1.1
   exact lN
  ·have hs:=h1.2
   obtain rfl:=thm1 h1.1
   exact lM
  ·have hs:=h1.2
   obtain rfl:=thm1 h1.1
   exact agu
 ·have h1:=thm7.1 acp (t,i) h
  simp[he] at h1
def ut (p:Prog) (more:Int):List Dt:=[.z (b2i true)]
def nQ:List Dt->List Dt
 | [.z x0,.l x1,.z x2]=>ut ⟨x0,x1⟩ x2
 | _=>[]
def ahg:Tr:=(.call 1 [.bool] .nil 8
(.leaf (.cb (.bw 8) .nil)))
def sT_lvmore:Tr:=
(.call 0 [.bool] (.cons (.var 0) (.cL (.lw 1) .nil)) 3
(.br (.bw 3)
(.call 1 [.bool] .nil 4
(.leaf (.cb (.bw 4) .nil)))
(.call 2 ([.sl [none] 4,.sl kSt 54]++[.int .i64]++[.int .i64]) (.cons (.var 0) (.cL (.lw 1) .nil)) 4
(.br (.eq (.var 7) (.lit 0))
(.br (.lt (.var 2) (.var 0))
 ahg
(.br (.lt (.lit 256) (.var 2))
 ahg
(.call 2 ([.sl [none] 4,.sl kSt 54]++[.int .i64]++[.int .i64]) (.cons (.var 2) (.cL (.lw 1) .nil)) 8
(.br (.eq (.var 11) (.lit 0))
(.br (.eq (.var 10) (.lit 0))
(.br (.eq (.len (.lw 4)) (.len (.lw 8)))
(.br (.eq (.len (.lw 5)) (.len (.lw 9)))
(.loop 0 12 [.int .i64] (.cons (.lit 0) .nil)
(.br (.lt (.var 12) (.len (.lw 4)))
(.br (.lt (.var 12) (.lit 0))
.panic
(.br (.lt (.var 12) (.len (.lw 8)))
(.br (.beq (.getb (.lw 4) (.var 12) 0) (.getb (.lw 8) (.var 12) 0))
(.br (.lt (.var 12) (.len (.lw 5)))
(.br (.lt (.var 12) (.len (.lw 9)))
(.br (.leq (.lq .ln (.gs (.lw 5) (.var 12) 0 171 .nil)) (.lq .ln (.gs (.lw 9) (.var 12) 0 171 .nil)))
(.next 0 (.cons (.bin .add .i64 (.var 12) (.lit 1)) .nil))
(.leaf (.cb (.tt false) .nil)))
.panic)
.panic)
(.leaf (.cb (.tt false) .nil)))
.panic))
(.call 1 [.bool] .nil 13
(.leaf (.cb (.bw 13) .nil)))))
(.leaf (.cb (.tt false) .nil)))
(.leaf (.cb (.tt false) .nil)))
(.leaf (.cb (.tt false) .nil)))
(.leaf (.cb (.tt false) .nil))))))
 ahg))))
def uF:Spec:={F:=fun k=>match k with | 0=>gp | 1=>rU | 2=>nG | _=>fun _=>[],pre:=fun k=>match k with | 0=>eR | 2=>kJ | _=>fun _=>True,hw:=sHw,hx:=sHx,hi:=sHi}
theorem aeg:ap tys_VzH [ns 0,wU 1,rm 2] [(14,Tryz.f14,[(4,[.tmpI 5 .i64]++tps [(4,1),(22,31)]),(999999,[]),(999998,[])],[])] [(999999,[])] [] 200 Tryz.f4 [.agg lV,.one (.int .i64)] [.one .bool] false [.int .i64,.list (kN 9 220090000),.int .i64] sT_lvmore:=⟨by kernel_rfl,by kernel_rfl,by kernel_rfl⟩
def dx:=And.intro Prog.eta (Ins.eta)
theorem adK (p:Prog) (hp:Prog.ok p) (more:Int) (hmore:inK .i64 more=true) (U:Env) (g:varsD U 0 [.int .i64,.list (kN 9 220090000),.int .i64]=[.z p.ctx,.l p.l,.z more]):sT_lvmore.asks uF (fun U e=>e.D U=nQ [.z p.ctx,.l p.l,.z more]) U fun _ _=>False:=by
 have keepg:=g
 simp only[varsD,varD,thm5,gS0,Nat.reduceAdd,and_true] at g
 simp only[sT_lvmore,ahg,uF,gp,rU,nG,mR,adS,nQ,ut,eR,kJ,simQ,af,S1,Nat.reduceSub,Nat.reduceAdd,-eq_self,am,dx,ab,ae,g]
 refine⟨?_,?_⟩
 ·exact hp.2.len
 intro e;(try simp only[e,am,dx,ab,ae,-eq_self]);clear e
 constructor<;>intro c0
 intro e;(try simp only[e,am,dx,ab,ae,-eq_self]);clear e
 ·rfl
 refine⟨?_,?_⟩
 ·exact hp.2.len
 intro e;have k4:=e.1;have k5:=e.2.1;(try simp only[e,am,dx,ab,ae,-eq_self]);clear e
 constructor<;>intro c1
 constructor<;>intro c2
 intro e;(try simp only[e,am,dx,ab,ae,-eq_self]);clear e
 ·rfl
 constructor<;>intro c3
 intro e;(try simp only[e,am,dx,ab,ae,-eq_self]);clear e
 ·rfl
 refine⟨?_,?_⟩
 ·exact hp.2.len
 intro e;rw[(sV (c:=more) (by have:=thm2 c2;omega) (by have:=thm2 c3;omega) (eqI c1)).1] at e;have k8:=e.1;have k9:=e.2.1;(try simp only[e,am,dx,ab,ae,-eq_self]);clear e
 constructor<;>intro c4
 constructor<;>intro c5
 constructor<;>intro c6
 constructor<;>intro c7
 refine⟨fun ds=>∃n:Nat,ds=[.z (n:Int)]/\n<=(vrun p).1.length,fun ds=>(vrun p).1.length-(dI ds 0).toNat,⟨0,rfl,Nat.zero_le _⟩,?_⟩
 intro U1 ha1 _ hi1
 obtain⟨n,hds,hn⟩:=hi1
 simp only[thm5,Dt.z.injEq,and_true] at hds
 have l4:=(ha1 4 (by decide)).2.2.symm.trans k4
 have l5:=(ha1 5 (by decide)).2.2.symm.trans k5
 have l8:=(ha1 8 (by decide)).2.2.symm.trans k8
 have l9:=(ha1 9 (by decide)).2.2.symm.trans k9
 have hL:=aht (eqI c1)
 simp only[hds,l4,l5,l8,l9,-eq_self]
 constructor<;>intro c8
 constructor<;>intro c9
 ·(have:=thm3 c9;have:=thm3 c8;omega)
 constructor<;>intro c10
 constructor<;>intro c11
 constructor<;>intro c12
 constructor<;>intro c13
 constructor<;>intro c14
 ·have hn2:n<(vrun p).1.length:=(by have:=thm3 c8;omega)
  have en:=addN hn2 (by rw[hL.1];exact hp.2.len)
  exact⟨⟨n+1,by rw[en],hn2⟩,by rw[en];show(vrun p).1.length-((n+1:Nat):Int).toNat<(vrun p).1.length-((n:Nat):Int).toNat;omega⟩
 ·simp at c14
 ·(have:=thm2 c13;have:=thm3 c8;omega)
 ·(have:=thm2 c12;have:=thm3 c8;omega)
 ·simp at c11
 ·(have:=thm2 c10;have:=thm3 c8;omega)
 intro e;(try simp only[e,am,dx,ab,ae,-eq_self]);clear e
 ·rfl
 ·simp at c7
 ·simp at c6
 ·exact absurd (sV (c:=more) (by have:=thm2 c2;omega) (by have:=thm2 c3;omega) (eqI c1)).2 (neI c5)
 ·exact absurd (eqI c1) (neI c4)
 intro e;(try simp only[e,am,dx,ab,ae,-eq_self]);clear e
 ·rfl
theorem afy (xs:List Dt) (vals:List Value) (w:World) (hw:kH w [.agg lV,.one (.int .i64)] xs vals) (hh:sHw w):Calls Tryz.prog 4 vals.toArray w fun e w'=>∃v,e=.returned v/\RetOk [.one .bool] false w w' (nQ xs) v:=
 (vE (by kernel_rfl) ach (smc (afr rfl rfl) (smc (anB rfl) (smc (ae9 rfl rfl) sm0))) Tryz.func4 (fnc Tryz.func14 fn0) aeg (pre:=fun _=>True) (fun x0 gx0 x1 gx1 x2 gx2 hp U g=>adK ⟨x0,x1⟩ ⟨gx0,gx1⟩ x2 gx2 U g) xs vals w hw trivial hh).2
theorem o5 {H:Type} {enc:TypeId×Value->H} {W:World} {r:Reach} {b0:Nat} (v0:Value) (k0:Value.okWide Tryz.prog W r b0 24 v0) (d0:DataW H) (p0:List MemPlace) (h0:DataW.Trod enc Tryz.prog W 0 (fun _=>true) true 24 v0 d0 p0) (_:∀x∈p0,x.block<W.heap.size) (a1:Int) (w1:(Lit.int .i64 a1).wf=true) (hh:sHw W):
  Calls Tryz.prog 4 #[v0,.int .i64 a1] W fun e W'=>e=.returned (.bool true)/\Below W.heap.size W W':=by
 obtain⟨a0,q0,s0,rfl,w0,n0,m0,o0,l0⟩:=Prog.of_arg k0 h0
 refine(afy (.z a0::(.l q0::(.z a1::([])))) _ W ⟨_,_,_,rfl,⟨_,_,_,rfl,⟨_,rfl,rfl,w0⟩,⟨_,_,_,rfl,⟨_,_,rfl,rfl,n0,m0,o0,l0⟩,⟨rfl,rfl⟩⟩⟩,⟨_,_,_,rfl,⟨_,rfl,rfl,(vD w1)⟩,⟨rfl,rfl⟩⟩⟩ hh).mono fun e W' ⟨v,he,hr⟩=> ?_
 have hv:v=.bool true:=RetOk.says hr
 rw[he,hv]
 exact⟨rfl,hr.ext⟩
end Go.Proofs.YtfkhblmeioiciaaGreatDoor
