import Derived.Test.YtfkhblmeioiciaaGreatDoorSdE
import Derived.Test.YtfkhblmeioiciaaGreatDoorProg
import Derived.Laws.Externs
set_option maxRecDepth 100000
set_option maxHeartbeats 8000000
set_option linter.defProp false
set_option linter.unusedVariables false
set_option linter.unusedSimpArgs false
namespace Go.Proofs.YtfkhblmeioiciaaGreatDoor
open Go.RowKit Go.ChangeShapes Go.WideShapes
def tys_SdF:List (Nat×TI):=[(2,tiq2),
 (3,tiq3),
 (37,ig),
 (42,fP),
 (44,ic),
 (46,kD),
 (48,dW),
 (50,tO),
 (51,wk),
 (52,wj),
 (54,ac0)]
theorem acQ:(tys_SdF.all fun p=>ckTI Tryz.prog p.1 p.2)=true:=by kernel_rfl
theorem tH:(tys_SdF.all fun p=>!p.2.eqok||((Nat.beq p.1 48&&aX p.2.zero z_Sc)||(Nat.beq p.1 50&&aX p.2.zero z_Ty)))=true:=by kernel_rfl
theorem acw:(tys_SdF.all fun p=>!p.2.keyok)=true:=by kernel_rfl
theorem aci:∀t i,(t,i)∈tys_SdF->TIok Tryz.prog t i:=by
 intro t i h
 refine bE (cC (f:=ckTI Tryz.prog) acQ h) (fun he=> ?_) (fun he=> ?_) (fun he=> ?_)
 ·have h1:=thm7.1 tH (t,i) h
  simp only[he,Bool.not_true,Bool.false_or,bG,thm0] at h1
  rcases h1 with h1 | h1
  ·have hs:=h1.2
   obtain rfl:=thm1 h1.1
   exact fun vs us hv hu=>vK vs us (ar hs hv) (ar hs hu)
  ·have hs:=h1.2
   obtain rfl:=thm1 h1.1
   exact fun vs us hv hu=>vJ vs us (ar hs hv) (ar hs hu)
 ·have h1:=thm7.1 tH (t,i) h
  simp only[he,Bool.not_true,Bool.false_or,bG,thm0] at h1
  rcases h1 with h1 | h1
  ·have hs:=h1.2
   obtain rfl:=thm1 h1.1
   exact lN
  ·have hs:=h1.2
   obtain rfl:=thm1 h1.1
   exact lM
 ·have h1:=thm7.1 acw (t,i) h
  simp[he] at h1
def ni (key:Nat):Sm:=⟨83,key,[.agg kSta,.one (.int .i64),.one (.int .i64),.one (.int .i64),.agg kTy],[.agg kSta,.one (.int .i64)],true⟩
def um (s:Sta) (lo:Int) (hi:Int) (size:Int) (t:Ty):List Dt:=ax (jr s lo hi size t) (.z (qp s lo hi size t)::([]))
def dc:List Dt->List Dt:=cg fun s=>rdZ fun lo=>rdZ fun hi=>rdZ fun size=>cH fun t=>fun _=>um s lo hi size t
def sT_tstore:Tr:=
(.call 0 [.bool] (.vs 0 174 .nil) 183
(.br (.bw 183)
(.br (.eq (.var 174) (.lit 0))
(.leaf (.zs [0,0,0,0,0,0,0,0,0,0,0,0,0,0,0,0,0,0,0,0,0,0,0,0,0,0,0,0,0,0,0,0,0,0,0,0,0,0,0,0,0,0,0,0,0,0,0,0,0,0,0,0,0,0,0,0,0,0,0,0,0,0,0,0,0,0,0,0,0,0,0,0,0,0,0,0,0,0,0,0,0,0,0,0,0,0,0,0,0,0,0,0,0,0,0,0,0,0,0,0,0,0,0,0,0,0,0,0,0,0,0,0,0,0,0,0,0,0,0,0,0,0,0,0,0,0,0,0,0,0,0,0,0,0,0,0,0,0,0,0,0,0,0,0,0,0,0,0,0,0,0,0,0,0,0,0,0,0,0,0,0,0,0,0,0,0,0,0,0,0,0,2] .nil))
(.call 2 [.bool] (.vs 174 9 .nil) 184
(.br (.bw 184)
(.call 1 [.int .i64,.bool] (.vs 171 3 .nil) 185
(.br (.bw 186)
(.br (.eq (.var 185) (.lit 0))
(.leaf (.vs 0 99 (.vs 174 9 (.vs 108 63 (.cons (.lit 0) .nil)))))
(.br (.eq (.var 185) (.lit 1))
(.leaf (.vs 0 108 (.vs 174 9 (.vs 117 54 (.cons (.lit 0) .nil)))))
(.br (.eq (.var 185) (.lit 2))
(.leaf (.vs 0 117 (.vs 174 9 (.vs 126 45 (.cons (.lit 0) .nil)))))
(.br (.eq (.var 185) (.lit 3))
(.leaf (.vs 0 126 (.vs 174 9 (.vs 135 36 (.cons (.lit 0) .nil)))))
(.br (.eq (.var 185) (.lit 4))
(.leaf (.vs 0 135 (.vs 174 9 (.vs 144 27 (.cons (.lit 0) .nil)))))
(.br (.eq (.var 185) (.lit 5))
(.leaf (.vs 0 144 (.vs 174 9 (.vs 153 18 (.cons (.lit 0) .nil)))))
(.br (.eq (.var 185) (.lit 6))
(.leaf (.vs 0 153 (.vs 174 9 (.vs 162 9 (.cons (.lit 0) .nil)))))
(.br (.eq (.var 185) (.lit 7))
(.leaf (.vs 0 162 (.vs 174 9 (.cons (.lit 0) .nil))))
.panic))))))))
(.loop 0 187 [.int .i64,.int .i8,.int .u64,.int .u64,.int .i64,.int .i64,.int .u64,.int .u64,.int .i64,.int .i64,.int .i8,.int .u64,.int .u64,.int .i64,.int .i64,.int .u64,.int .u64,.int .i64,.int .i64,.int .i8,.int .u64,.int .u64,.int .i64,.int .i64,.int .u64,.int .u64,.int .i64,.int .i64,.int .i8,.int .u64,.int .u64,.int .i64,.int .i64,.int .u64,.int .u64,.int .i64,.int .i64,.int .i8,.int .u64,.int .u64,.int .i64,.int .i64,.int .u64,.int .u64,.int .i64,.int .i64,.int .i8,.int .u64,.int .u64,.int .i64,.int .i64,.int .u64,.int .u64,.int .i64,.int .i64,.int .i8,.int .u64,.int .u64,.int .i64,.int .i64,.int .u64,.int .u64,.int .i64,.int .i64,.int .i8,.int .u64,.int .u64,.int .i64,.int .i64,.int .u64,.int .u64,.int .i64,.int .i64] (.cons (.bin .quo .i64 (.var 171) (.lit 8)) (.vs 99 72 .nil))
(.br (.lt (.bin .quo .i64 (.bin .sub .i64 (.bin .add .i64 (.var 172) (.var 173)) (.lit 1)) (.lit 8)) (.var 187))
(.leaf (.vs 0 99 (.vs 188 72 (.cons (.lit 0) .nil))))
(.call 3 (kTy) .nil 260
(.br (.eq (.var 187) (.lit 0))
(.next 0 (.cons (.bin .add .i64 (.var 187) (.lit 1)) (.vs 260 9 (.vs 197 63 .nil))))
(.br (.eq (.var 187) (.lit 1))
(.next 0 (.cons (.bin .add .i64 (.var 187) (.lit 1)) (.vs 188 9 (.vs 260 9 (.vs 206 54 .nil)))))
(.br (.eq (.var 187) (.lit 2))
(.next 0 (.cons (.bin .add .i64 (.var 187) (.lit 1)) (.vs 188 18 (.vs 260 9 (.vs 215 45 .nil)))))
(.br (.eq (.var 187) (.lit 3))
(.next 0 (.cons (.bin .add .i64 (.var 187) (.lit 1)) (.vs 188 27 (.vs 260 9 (.vs 224 36 .nil)))))
(.br (.eq (.var 187) (.lit 4))
(.next 0 (.cons (.bin .add .i64 (.var 187) (.lit 1)) (.vs 188 36 (.vs 260 9 (.vs 233 27 .nil)))))
(.br (.eq (.var 187) (.lit 5))
(.next 0 (.cons (.bin .add .i64 (.var 187) (.lit 1)) (.vs 188 45 (.vs 260 9 (.vs 242 18 .nil)))))
(.br (.eq (.var 187) (.lit 6))
(.next 0 (.cons (.bin .add .i64 (.var 187) (.lit 1)) (.vs 188 54 (.vs 260 9 (.vs 251 9 .nil)))))
(.br (.eq (.var 187) (.lit 7))
(.next 0 (.cons (.bin .add .i64 (.var 187) (.lit 1)) (.vs 188 63 (.vs 260 9 .nil))))
.panic)))))))))))))
(.leaf (.zs [0,0,0,0,0,0,0,0,0,0,0,0,0,0,0,0,0,0,0,0,0,0,0,0,0,0,0,0,0,0,0,0,0,0,0,0,0,0,0,0,0,0,0,0,0,0,0,0,0,0,0,0,0,0,0,0,0,0,0,0,0,0,0,0,0,0,0,0,0,0,0,0,0,0,0,0,0,0,0,0,0,0,0,0,0,0,0,0,0,0,0,0,0,0,0,0,0,0,0,0,0,0,0,0,0,0,0,0,0,0,0,0,0,0,0,0,0,0,0,0,0,0,0,0,0,0,0,0,0,0,0,0,0,0,0,0,0,0,0,0,0,0,0,0,0,0,0,0,0,0,0,0,0,0,0,0,0,0,0,0,0,0,0,0,0,0,0,0,0,0,0,2] .nil)))))
(.leaf (.zs [0,0,0,0,0,0,0,0,0,0,0,0,0,0,0,0,0,0,0,0,0,0,0,0,0,0,0,0,0,0,0,0,0,0,0,0,0,0,0,0,0,0,0,0,0,0,0,0,0,0,0,0,0,0,0,0,0,0,0,0,0,0,0,0,0,0,0,0,0,0,0,0,0,0,0,0,0,0,0,0,0,0,0,0,0,0,0,0,0,0,0,0,0,0,0,0,0,0,0,0,0,0,0,0,0,0,0,0,0,0,0,0,0,0,0,0,0,0,0,0,0,0,0,0,0,0,0,0,0,0,0,0,0,0,0,0,0,0,0,0,0,0,0,0,0,0,0,0,0,0,0,0,0,0,0,0,0,0,0,0,0,0,0,0,0,0,0,0,0,0,0,2] .nil))))
def uy:Spec:={F:=fun k=>match k with | 0=>gm | 1=>iR | 2=>iQ | 3=>cp | _=>fun _=>[],pre:=fun _ _=>True}
theorem ad9:ap tys_SdF [rG 0,rD 1,rx 2,fm 3] [] [(8,[.tmpI 14 .i64,.cI 0 99 .i8,.cI 0 100 .u64,.cI 0 101 .u64,.cI 0 102 .i64,.cI 0 103 .i64,.cI 0 104 .u64,.cI 0 105 .u64,.cI 0 106 .i64,.cI 0 107 .i64,.cI 0 108 .i8,.cI 0 109 .u64,.cI 0 110 .u64,.cI 0 111 .i64,.cI 0 112 .i64,.cI 0 113 .u64,.cI 0 114 .u64,.cI 0 115 .i64,.cI 0 116 .i64,.cI 0 117 .i8,.cI 0 118 .u64,.cI 0 119 .u64,.cI 0 120 .i64,.cI 0 121 .i64,.cI 0 122 .u64,.cI 0 123 .u64,.cI 0 124 .i64,.cI 0 125 .i64,.cI 0 126 .i8,.cI 0 127 .u64,.cI 0 128 .u64,.cI 0 129 .i64,.cI 0 130 .i64,.cI 0 131 .u64,.cI 0 132 .u64,.cI 0 133 .i64,.cI 0 134 .i64,.cI 0 135 .i8,.cI 0 136 .u64,.cI 0 137 .u64,.cI 0 138 .i64,.cI 0 139 .i64,.cI 0 140 .u64,.cI 0 141 .u64,.cI 0 142 .i64,.cI 0 143 .i64,.cI 0 144 .i8,.cI 0 145 .u64,.cI 0 146 .u64,.cI 0 147 .i64,.cI 0 148 .i64,.cI 0 149 .u64,.cI 0 150 .u64,.cI 0 151 .i64,.cI 0 152 .i64,.cI 0 153 .i8,.cI 0 154 .u64,.cI 0 155 .u64,.cI 0 156 .i64,.cI 0 157 .i64,.cI 0 158 .u64,.cI 0 159 .u64,.cI 0 160 .i64,.cI 0 161 .i64,.cI 0 162 .i8,.cI 0 163 .u64,.cI 0 164 .u64,.cI 0 165 .i64,.cI 0 166 .i64,.cI 0 167 .u64,.cI 0 168 .u64,.cI 0 169 .i64,.cI 0 170 .i64]++tps [(0,2),(4,1),(6,4),(11,3),(15,46)])] [] 200 Tryz.f83 [.agg kSta,.one (.int .i64),.one (.int .i64),.one (.int .i64),.agg kTy] [.agg kSta,.one (.int .i64)] true (bY (.int .i64::(.int .i64::(.int .i64::(v_Ty ([])))))) sT_tstore:=⟨by kernel_rfl,by kernel_rfl,by kernel_rfl⟩
theorem adD (s:Sta) (hs:Sta.ok s) (lo:Int) (hlo:inK .i64 lo=true) (hi:Int) (hhi:inK .i64 hi=true) (size:Int) (hsize:inK .i64 size=true) (t:Ty) (ht:Ty.ok t) (U:Env) (g:varsD U 0 (bY (.int .i64::(.int .i64::(.int .i64::(v_Ty ([]))))))=(ax s (.z lo::(.z hi::(.z size::(d_Ty t ([]))))))):sT_tstore.asks uy (fun U e=>e.D U=dc (ax s (.z lo::(.z hi::(.z size::(d_Ty t ([]))))))) U fun _ _=>False:=by
 have keepg:=g
 simp only[dc,bP,fC,rdZ,rdB]
 simp only[ax,d_Ty,bY,v_Ty,varsD,varD,thm5,gS0,Nat.reduceAdd,and_true] at g
 simp(maxSteps:=10000000) only[sT_tstore,uy,ax,d_Ty,kTy,cg,cH,rdZ,gm,iR,iQ,cp,qR,qO,qM,dc,um,simQ,af,S1,Nat.reduceSub,Nat.reduceAdd,-eq_self,am,Prog.eta,Ins.eta,ab,ae,g]
 intro e;(try simp only[e,am,Prog.eta,Ins.eta,ab,ae,-eq_self]);clear e
 constructor<;>intro c0
 constructor<;>intro c1
 ·rw[(eQ (.inr (aj6 c1))).1,(eQ (.inr (aj6 c1))).2];rfl
 intro e;(try simp only[e,am,Prog.eta,Ins.eta,ab,ae,-eq_self]);clear e
 constructor<;>intro c2
 intro e;(try simp only[e,am,Prog.eta,Ins.eta,ab,ae,-eq_self]);clear e
 constructor<;>intro c3
 constructor<;>intro c4
 ·have e:=eqz c4
  rw[(aQ c0 (cQ c1 c2) c3).1,(aQ c0 (cQ c1 c2) c3).2,e];rfl
 constructor<;>intro c5
 ·have e:=eqz c5
  rw[(aQ c0 (cQ c1 c2) c3).1,(aQ c0 (cQ c1 c2) c3).2,e];rfl
 constructor<;>intro c6
 ·have e:=eqz c6
  rw[(aQ c0 (cQ c1 c2) c3).1,(aQ c0 (cQ c1 c2) c3).2,e];rfl
 constructor<;>intro c7
 ·have e:=eqz c7
  rw[(aQ c0 (cQ c1 c2) c3).1,(aQ c0 (cQ c1 c2) c3).2,e];rfl
 constructor<;>intro c8
 ·have e:=eqz c8
  rw[(aQ c0 (cQ c1 c2) c3).1,(aQ c0 (cQ c1 c2) c3).2,e];rfl
 constructor<;>intro c9
 ·have e:=eqz c9
  rw[(aQ c0 (cQ c1 c2) c3).1,(aQ c0 (cQ c1 c2) c3).2,e];rfl
 constructor<;>intro c10
 ·have e:=eqz c10
  rw[(aQ c0 (cQ c1 c2) c3).1,(aQ c0 (cQ c1 c2) c3).2,e];rfl
 constructor<;>intro c11
 ·have e:=eqz c11
  rw[(aQ c0 (cQ c1 c2) c3).1,(aQ c0 (cQ c1 c2) c3).2,e];rfl
 ·exact afR c0 rfl c4 c5 c6 c7 c8 c9 c10 c11
 obtain⟨q1,q2,q3,q4,q5⟩:=qy c0
 refine⟨fun ds=>∃n:Int,ds=.z n::aph (sput s (pbet (lo / 8) n) fV)/\lo / 8<=n/\n<=(hi+size-1) / 8+1,fun ds=>(100-dI ds 0).toNat,⟨lo / 8,by rw[quo8 q2 (by omega),adg (fun k h0 h1=>by unfold pbet;simp)];try rfl,by omega,by omega⟩,?_⟩
 intro U1 ha1 _ hi1
 obtain⟨n,hds,r1,r2⟩:=hi1
 simp only[aph,thm5,Dt.z.injEq,Nat.reduceAdd,and_true] at hds
 have keepg1:=(ql ha1 _ 0 (by decide)).trans keepg
 have g1:=keepg1
 simp only[d_Ty,v_Ty,ax,bY,aq8,ao8,d_Fr,v_Fr,varsD,varD,thm5,gS0,Nat.reduceAdd,and_true] at g1
 simp only[g1,hds,-eq_self]
 constructor<;>intro c12
 ·have h9:=thm3 c12
  have q6:=(o6 c0).1
  rw[q6] at h9
  rw[(mF c0 (cQ c1 c2) c3).1,(mF c0 (cQ c1 c2) c3).2,<-aoI c0 (n:=n) (by omega) (by omega)];rfl
 intro e;(try simp only[e,am,Prog.eta,Ins.eta,ab,ae,-eq_self]);clear e
 constructor<;>intro c13
 ·have h9:=thm2 c12
  have q6:=(o6 c0).1
  rw[q6] at h9
  have e:=eqz c13
  subst e
  refine⟨⟨1,?_,by omega,by omega⟩,?_⟩
  ·rw[ahK (q:=pbet (lo / 8) 1) (p:=pbet (lo / 8) 0) (fun k _ _=>eu (n:=0) (by omega))];rfl
  ·show(100-(1:Int)).toNat<(100-(0:Int)).toNat;decide
 constructor<;>intro c14
 ·have h9:=thm2 c12
  have q6:=(o6 c0).1
  rw[q6] at h9
  have e:=eqz c14
  subst e
  refine⟨⟨2,?_,by omega,by omega⟩,?_⟩
  ·rw[ahJ (q:=pbet (lo / 8) 2) (p:=pbet (lo / 8) 1) (fun k _ _=>eu (n:=1) (by omega))];rfl
  ·show(100-(2:Int)).toNat<(100-(1:Int)).toNat;decide
 constructor<;>intro c15
 ·have h9:=thm2 c12
  have q6:=(o6 c0).1
  rw[q6] at h9
  have e:=eqz c15
  subst e
  refine⟨⟨3,?_,by omega,by omega⟩,?_⟩
  ·rw[ahI (q:=pbet (lo / 8) 3) (p:=pbet (lo / 8) 2) (fun k _ _=>eu (n:=2) (by omega))];rfl
  ·show(100-(3:Int)).toNat<(100-(2:Int)).toNat;decide
 constructor<;>intro c16
 ·have h9:=thm2 c12
  have q6:=(o6 c0).1
  rw[q6] at h9
  have e:=eqz c16
  subst e
  refine⟨⟨4,?_,by omega,by omega⟩,?_⟩
  ·rw[ahH (q:=pbet (lo / 8) 4) (p:=pbet (lo / 8) 3) (fun k _ _=>eu (n:=3) (by omega))];rfl
  ·show(100-(4:Int)).toNat<(100-(3:Int)).toNat;decide
 constructor<;>intro c17
 ·have h9:=thm2 c12
  have q6:=(o6 c0).1
  rw[q6] at h9
  have e:=eqz c17
  subst e
  refine⟨⟨5,?_,by omega,by omega⟩,?_⟩
  ·rw[ahG (q:=pbet (lo / 8) 5) (p:=pbet (lo / 8) 4) (fun k _ _=>eu (n:=4) (by omega))];rfl
  ·show(100-(5:Int)).toNat<(100-(4:Int)).toNat;decide
 constructor<;>intro c18
 ·have h9:=thm2 c12
  have q6:=(o6 c0).1
  rw[q6] at h9
  have e:=eqz c18
  subst e
  refine⟨⟨6,?_,by omega,by omega⟩,?_⟩
  ·rw[ahF (q:=pbet (lo / 8) 6) (p:=pbet (lo / 8) 5) (fun k _ _=>eu (n:=5) (by omega))];rfl
  ·show(100-(6:Int)).toNat<(100-(5:Int)).toNat;decide
 constructor<;>intro c19
 ·have h9:=thm2 c12
  have q6:=(o6 c0).1
  rw[q6] at h9
  have e:=eqz c19
  subst e
  refine⟨⟨7,?_,by omega,by omega⟩,?_⟩
  ·rw[ahE (q:=pbet (lo / 8) 7) (p:=pbet (lo / 8) 6) (fun k _ _=>eu (n:=6) (by omega))];rfl
  ·show(100-(7:Int)).toNat<(100-(6:Int)).toNat;decide
 constructor<;>intro c20
 ·have h9:=thm2 c12
  have q6:=(o6 c0).1
  rw[q6] at h9
  have e:=eqz c20
  subst e
  refine⟨⟨8,?_,by omega,by omega⟩,?_⟩
  ·rw[ahD (q:=pbet (lo / 8) 8) (p:=pbet (lo / 8) 7) (fun k _ _=>eu (n:=7) (by omega))];rfl
  ·show(100-(8:Int)).toNat<(100-(7:Int)).toNat;decide
 ·have h9:=thm2 c12
  have q6:=(o6 c0).1
  rw[q6] at h9
  simp only[beq_eq_false_iff_ne] at c13 c14 c15 c16 c17 c18 c19 c20
  omega
 ·rw[(eQ (.inr (aj5 c2))).1,(eQ (.inr (aj5 c2))).2];rfl
 ·rw[(eQ (.inl c0)).1,(eQ (.inl c0)).2];rfl
theorem aff {sp:Spec} {key:Nat} (hF:sp.F key=dc) (hP:sp.pre key=fun _=>True:=by rfl):SmOk Tryz.prog sp (ni key):=
 au (s:=ni key) hF hP (by kernel_rfl) aci (smc (afm rfl) (smc (afj rfl) (smc (afe rfl) (smc (jx rfl) sm0)))) Tryz.func83 fn0 ad9 (.inl rfl) (dq fun q0 gq0=>fun x171 gx171 x172 gx172 x173 gx173=>bj fun q7 gq7=>fun hp U g=>adD q0 gq0 x171 gx171 x172 gx172 x173 gx173 q7 gq7 U g)
end Go.Proofs.YtfkhblmeioiciaaGreatDoor
