import Derived.Test.YtfkhblmeioiciaaGreatDoorSdE
import Derived.Test.YtfkhblmeioiciaaGreatDoorProg
import Derived.Laws.Externs
set_option maxRecDepth 100000
set_option maxHeartbeats 8000000
set_option linter.unusedVariables false
set_option linter.unusedSimpArgs false
namespace Go.Proofs.YtfkhblmeioiciaaGreatDoor
open Go.RowKit Go.ChangeShapes Go.WideShapes
def tys_SdF:List (Nat×TI):=[(2,⟨false,1,[.int .i64 (.lit 0)],[],none,some .i64,false,false,none,8,false,none,false,0⟩),
 (3,⟨false,1,[.int .i64 (.lit 0)],[],none,some .i64,false,false,none,8,false,none,false,0⟩),
 (37,⟨false,1,[.int .i8 (.lit 0)],[],none,some .i8,false,false,none,1,false,none,false,0⟩),
 (42,⟨false,1,[.int .u64 (.lit 0)],[],none,some .u64,false,false,none,8,false,none,false,0⟩),
 (44,⟨true,4,(zN 4 2211),[(0,42),(1,42),(2,2),(3,2)],none,none,false,false,none,32,false,none,false,0⟩),
 (46,⟨true,2,[.int .u64 (.lit 0),.int .u64 (.lit 0)],[(0,42),(1,42)],none,none,false,false,none,16,false,none,false,0⟩),
 (48,⟨true,6,(zN 6 112211),[(0,44),(4,46)],none,none,true,false,none,48,false,none,false,0⟩),
 (50,⟨true,9,(zN 9 221122110),[(0,37),(1,48),(7,3),(8,3)],none,none,true,false,none,72,false,none,false,0⟩),
 (51,⟨true,99,(zN 99 221122110221122110221122110221122110221122110221122110221122110221122110221122110221122110221122110),[],some (11,50),none,false,false,none,792,false,none,false,0⟩),
 (52,⟨true,72,(zN 72 221122110221122110221122110221122110221122110221122110221122110221122110),[],some (8,50),none,false,false,none,576,false,none,false,0⟩),
 (54,⟨true,171,(zN 171 221122110221122110221122110221122110221122110221122110221122110221122110221122110221122110221122110221122110221122110221122110221122110221122110221122110221122110221122110),[(0,51),(99,52)],none,none,false,false,none,1368,false,none,false,0⟩)]
theorem acv:(tys_SdF.all fun p=>ckTI Tryz.prog p.1 p.2)=true:=by kernel_rfl
theorem sY:(tys_SdF.all fun p=>!p.2.eqok||((Nat.beq p.1 48&&aY p.2.zero z_Sc)||(Nat.beq p.1 50&&aY p.2.zero z_Ty)))=true:=by kernel_rfl
theorem aca:(tys_SdF.all fun p=>!p.2.keyok)=true:=by kernel_rfl
theorem abW:∀t i,(t,i)∈tys_SdF->TIok Tryz.prog t i:=by
 intro t i h
 refine bC (cz (f:=ckTI Tryz.prog) acv h) (fun he=> ?_) (fun he=> ?_) (fun he=> ?_)
 ·have h1:=thm7.1 sY (t,i) h
  simp only[he,Bool.not_true,Bool.false_or,Bool.or_eq_true,thm0] at h1
  rcases h1 with h1 | h1
  ·have hs:=h1.2
   obtain rfl:=thm1 h1.1
   exact fun vs us hv hu=>vn vs us (au hs hv) (au hs hu)
  ·have hs:=h1.2
   obtain rfl:=thm1 h1.1
   exact fun vs us hv hu=>vm vs us (au hs hv) (au hs hu)
 ·have h1:=thm7.1 sY (t,i) h
  simp only[he,Bool.not_true,Bool.false_or,Bool.or_eq_true,thm0] at h1
  rcases h1 with h1 | h1
  ·have hs:=h1.2
   obtain rfl:=thm1 h1.1
   exact lz
  ·have hs:=h1.2
   obtain rfl:=thm1 h1.1
   exact ly
 ·have h1:=thm7.1 aca (t,i) h
  simp[he] at h1
def mU (key:Nat):Sm:=⟨83,key,[.agg kSta,.one (.int .i64),.one (.int .i64),.one (.int .i64),.agg kTy],[.agg kSta,.one (.int .i64)],true⟩
def tQ (s:Sta) (lo:Int) (hi:Int) (size:Int) (t:Ty):List Dt:=ay (jb s lo hi size t) (.z (pY s lo hi size t)::([]))
def cW:List Dt->List Dt:=cg fun s=>rdZ fun lo=>rdZ fun hi=>rdZ fun size=>cG fun t=>fun _=>tQ s lo hi size t
def sT_tstore:Tr:=
(.call 0 [.bool] (.vs 0 174 .nil) 183
(.br (.bvar 183)
(.br (.eq (.var 174) (.lit 0))
(.leaf (.zs [0,0,0,0,0,0,0,0,0,0,0,0,0,0,0,0,0,0,0,0,0,0,0,0,0,0,0,0,0,0,0,0,0,0,0,0,0,0,0,0,0,0,0,0,0,0,0,0,0,0,0,0,0,0,0,0,0,0,0,0,0,0,0,0,0,0,0,0,0,0,0,0,0,0,0,0,0,0,0,0,0,0,0,0,0,0,0,0,0,0,0,0,0,0,0,0,0,0,0,0,0,0,0,0,0,0,0,0,0,0,0,0,0,0,0,0,0,0,0,0,0,0,0,0,0,0,0,0,0,0,0,0,0,0,0,0,0,0,0,0,0,0,0,0,0,0,0,0,0,0,0,0,0,0,0,0,0,0,0,0,0,0,0,0,0,0,0,0,0,0,0,2] .nil))
(.call 2 [.bool] (.vs 174 9 .nil) 184
(.br (.bvar 184)
(.call 1 [.int .i64,.bool] (.vs 171 3 .nil) 185
(.br (.bvar 186)
(.br (.eq (.var 185) (.lit 0))
(.leaf (.vs 0 99 (.vs 174 9 (.vs 108 63 (.cons (.lit 0) .nil)))))
(.br (.eq (.var 185) (.lit 1))
(.leaf (.vs 0 108 (.vs 174 9 (.vs 117 54 (.cons (.lit 0) .nil)))))
(.br (.eq (.var 185) (.lit 2))
(.leaf (.vs 0 117 (.vs 174 9 (.vs 126 45 (.cons (.lit 0) .nil)))))
(.br (.eq (.var 185) (.lit 3))
(.leaf (.vs 0 126 (.vs 174 9 (.vs 135 36 (.cons (.lit 0) .nil)))))
(.br (.eq (.var 185) (.lit 4))
(.leaf (.vs 0 135 (.vs 174 9 (.vs 144 27 (.cons (.lit 0) .nil)))))
(.br (.eq (.var 185) (.lit 5))
(.leaf (.vs 0 144 (.vs 174 9 (.vs 153 18 (.cons (.lit 0) .nil)))))
(.br (.eq (.var 185) (.lit 6))
(.leaf (.vs 0 153 (.vs 174 9 (.vs 162 9 (.cons (.lit 0) .nil)))))
(.br (.eq (.var 185) (.lit 7))
(.leaf (.vs 0 162 (.vs 174 9 (.cons (.lit 0) .nil))))
.panic))))))))
(.loop 0 187 [.int .i64,.int .i8,.int .u64,.int .u64,.int .i64,.int .i64,.int .u64,.int .u64,.int .i64,.int .i64,.int .i8,.int .u64,.int .u64,.int .i64,.int .i64,.int .u64,.int .u64,.int .i64,.int .i64,.int .i8,.int .u64,.int .u64,.int .i64,.int .i64,.int .u64,.int .u64,.int .i64,.int .i64,.int .i8,.int .u64,.int .u64,.int .i64,.int .i64,.int .u64,.int .u64,.int .i64,.int .i64,.int .i8,.int .u64,.int .u64,.int .i64,.int .i64,.int .u64,.int .u64,.int .i64,.int .i64,.int .i8,.int .u64,.int .u64,.int .i64,.int .i64,.int .u64,.int .u64,.int .i64,.int .i64,.int .i8,.int .u64,.int .u64,.int .i64,.int .i64,.int .u64,.int .u64,.int .i64,.int .i64,.int .i8,.int .u64,.int .u64,.int .i64,.int .i64,.int .u64,.int .u64,.int .i64,.int .i64] (.cons (.bin .quo .i64 (.var 171) (.lit 8)) (.vs 99 72 .nil))
(.br (.lt (.bin .quo .i64 (.bin .sub .i64 (.bin .add .i64 (.var 172) (.var 173)) (.lit 1)) (.lit 8)) (.var 187))
(.leaf (.vs 0 99 (.vs 188 72 (.cons (.lit 0) .nil))))
(.call 3 (kTy) .nil 260
(.br (.eq (.var 187) (.lit 0))
(.next 0 (.cons (.bin .add .i64 (.var 187) (.lit 1)) (.vs 260 9 (.vs 197 63 .nil))))
(.br (.eq (.var 187) (.lit 1))
(.next 0 (.cons (.bin .add .i64 (.var 187) (.lit 1)) (.vs 188 9 (.vs 260 9 (.vs 206 54 .nil)))))
(.br (.eq (.var 187) (.lit 2))
(.next 0 (.cons (.bin .add .i64 (.var 187) (.lit 1)) (.vs 188 18 (.vs 260 9 (.vs 215 45 .nil)))))
(.br (.eq (.var 187) (.lit 3))
(.next 0 (.cons (.bin .add .i64 (.var 187) (.lit 1)) (.vs 188 27 (.vs 260 9 (.vs 224 36 .nil)))))
(.br (.eq (.var 187) (.lit 4))
(.next 0 (.cons (.bin .add .i64 (.var 187) (.lit 1)) (.vs 188 36 (.vs 260 9 (.vs 233 27 .nil)))))
(.br (.eq (.var 187) (.lit 5))
(.next 0 (.cons (.bin .add .i64 (.var 187) (.lit 1)) (.vs 188 45 (.vs 260 9 (.vs 242 18 .nil)))))
(.br (.eq (.var 187) (.lit 6))
(.next 0 (.cons (.bin .add .i64 (.var 187) (.lit 1)) (.vs 188 54 (.vs 260 9 (.vs 251 9 .nil)))))
(.br (.eq (.var 187) (.lit 7))
(.next 0 (.cons (.bin .add .i64 (.var 187) (.lit 1)) (.vs 188 63 (.vs 260 9 .nil))))
.panic)))))))))))))
(.leaf (.zs [0,0,0,0,0,0,0,0,0,0,0,0,0,0,0,0,0,0,0,0,0,0,0,0,0,0,0,0,0,0,0,0,0,0,0,0,0,0,0,0,0,0,0,0,0,0,0,0,0,0,0,0,0,0,0,0,0,0,0,0,0,0,0,0,0,0,0,0,0,0,0,0,0,0,0,0,0,0,0,0,0,0,0,0,0,0,0,0,0,0,0,0,0,0,0,0,0,0,0,0,0,0,0,0,0,0,0,0,0,0,0,0,0,0,0,0,0,0,0,0,0,0,0,0,0,0,0,0,0,0,0,0,0,0,0,0,0,0,0,0,0,0,0,0,0,0,0,0,0,0,0,0,0,0,0,0,0,0,0,0,0,0,0,0,0,0,0,0,0,0,0,2] .nil)))))
(.leaf (.zs [0,0,0,0,0,0,0,0,0,0,0,0,0,0,0,0,0,0,0,0,0,0,0,0,0,0,0,0,0,0,0,0,0,0,0,0,0,0,0,0,0,0,0,0,0,0,0,0,0,0,0,0,0,0,0,0,0,0,0,0,0,0,0,0,0,0,0,0,0,0,0,0,0,0,0,0,0,0,0,0,0,0,0,0,0,0,0,0,0,0,0,0,0,0,0,0,0,0,0,0,0,0,0,0,0,0,0,0,0,0,0,0,0,0,0,0,0,0,0,0,0,0,0,0,0,0,0,0,0,0,0,0,0,0,0,0,0,0,0,0,0,0,0,0,0,0,0,0,0,0,0,0,0,0,0,0,0,0,0,0,0,0,0,0,0,0,0,0,0,0,0,2] .nil))))
def tX:Spec:={F:=fun k=>match k with | 0=>fT | 1=>iA | 2=>iz | 3=>cp | _=>fun _=>[],pre:=fun k=>match k with | _=>fun _=>True}
theorem adL:aq tys_SdF [rj 0,rb 1,qX 2,eZ 3] [] [(8,[.tmpI 14 .i64,.celI 0 99 .i8,.celI 0 100 .u64,.celI 0 101 .u64,.celI 0 102 .i64,.celI 0 103 .i64,.celI 0 104 .u64,.celI 0 105 .u64,.celI 0 106 .i64,.celI 0 107 .i64,.celI 0 108 .i8,.celI 0 109 .u64,.celI 0 110 .u64,.celI 0 111 .i64,.celI 0 112 .i64,.celI 0 113 .u64,.celI 0 114 .u64,.celI 0 115 .i64,.celI 0 116 .i64,.celI 0 117 .i8,.celI 0 118 .u64,.celI 0 119 .u64,.celI 0 120 .i64,.celI 0 121 .i64,.celI 0 122 .u64,.celI 0 123 .u64,.celI 0 124 .i64,.celI 0 125 .i64,.celI 0 126 .i8,.celI 0 127 .u64,.celI 0 128 .u64,.celI 0 129 .i64,.celI 0 130 .i64,.celI 0 131 .u64,.celI 0 132 .u64,.celI 0 133 .i64,.celI 0 134 .i64,.celI 0 135 .i8,.celI 0 136 .u64,.celI 0 137 .u64,.celI 0 138 .i64,.celI 0 139 .i64,.celI 0 140 .u64,.celI 0 141 .u64,.celI 0 142 .i64,.celI 0 143 .i64,.celI 0 144 .i8,.celI 0 145 .u64,.celI 0 146 .u64,.celI 0 147 .i64,.celI 0 148 .i64,.celI 0 149 .u64,.celI 0 150 .u64,.celI 0 151 .i64,.celI 0 152 .i64,.celI 0 153 .i8,.celI 0 154 .u64,.celI 0 155 .u64,.celI 0 156 .i64,.celI 0 157 .i64,.celI 0 158 .u64,.celI 0 159 .u64,.celI 0 160 .i64,.celI 0 161 .i64,.celI 0 162 .i8,.celI 0 163 .u64,.celI 0 164 .u64,.celI 0 165 .i64,.celI 0 166 .i64,.celI 0 167 .u64,.celI 0 168 .u64,.celI 0 169 .i64,.celI 0 170 .i64,.top 0,.top 1,.top 4,.top 6,.top 7,.top 8,.top 9,.top 11,.top 12,.top 13,.top 15,.top 16,.top 17,.top 18,.top 19,.top 20,.top 21,.top 22,.top 23,.top 24,.top 25,.top 26,.top 27,.top 28,.top 29,.top 30,.top 31,.top 32,.top 33,.top 34,.top 35,.top 36,.top 37,.top 38,.top 39,.top 40,.top 41,.top 42,.top 43,.top 44,.top 45,.top 46,.top 47,.top 48,.top 49,.top 50,.top 51,.top 52,.top 53,.top 54,.top 55,.top 56,.top 57,.top 58,.top 59,.top 60])] [] 200 Tryz.f83 [.agg kSta,.one (.int .i64),.one (.int .i64),.one (.int .i64),.agg kTy] [.agg kSta,.one (.int .i64)] true (bZ (.int .i64::(.int .i64::(.int .i64::(v_Ty ([])))))) sT_tstore:=⟨by kernel_rfl,by kernel_rfl,by kernel_rfl⟩
theorem adf (s:Sta) (hs:Sta.ok s) (lo:Int) (hlo:inK .i64 lo=true) (hi:Int) (hhi:inK .i64 hi=true) (size:Int) (hsize:inK .i64 size=true) (t:Ty) (ht:Ty.ok t) (U:Env) (g:ab U 0 (bZ (.int .i64::(.int .i64::(.int .i64::(v_Ty ([]))))))=(ay s (.z lo::(.z hi::(.z size::(d_Ty t ([]))))))):sT_tstore.asks tX (fun U e=>e.D U=cW (ay s (.z lo::(.z hi::(.z size::(d_Ty t ([]))))))) U fun _ _=>False:=by
 have keepg:=g
 simp only[cW,bQ,fl,rdZ,rdB]
 simp only[ay,d_Ty,bZ,v_Ty,ab,varD,thm5,Dt.z.injEq,Dt.l.injEq,b2i_eq_iff,Nat.reduceAdd,and_true] at g
 simp(maxSteps:=10000000) only[sT_tstore,tX,ay,d_Ty,kTy,cg,cG,rdZ,fT,iA,iz,cp,qB,qx,qv,cW,tQ,Tr.asks,ah,okDs,okD,eqs,E.I,E.B,E.L,E.R,E.D,E.vs,E.gs,E.ins,E.sv,E.tn,E.iv,E.zs,E.zr,E.sg,E.tg,E.rg,E.rgs,E.pv,Nat.reduceSub,dI,dB,dL,varD,ab,S1,Nat.reduceAdd,-eq_self,ao,Prog.eta,Ins.eta,ae,af,g]
 intro e; (try simp only[e,ao,Prog.eta,Ins.eta,ae,af,-eq_self]); clear e
 constructor<;>intro c0
 constructor<;>intro c1
 ·rw[(eB (.inr (aju c1))).1,(eB (.inr (aju c1))).2]; rfl
 intro e; (try simp only[e,ao,Prog.eta,Ins.eta,ae,af,-eq_self]); clear e
 constructor<;>intro c2
 intro e; (try simp only[e,ao,Prog.eta,Ins.eta,ae,af,-eq_self]); clear e
 constructor<;>intro c3
 constructor<;>intro c4
 ·have e:=eqz c4
  rw[(aT c0 (cL c1 c2) c3).1,(aT c0 (cL c1 c2) c3).2,e]; rfl
 constructor<;>intro c5
 ·have e:=eqz c5
  rw[(aT c0 (cL c1 c2) c3).1,(aT c0 (cL c1 c2) c3).2,e]; rfl
 constructor<;>intro c6
 ·have e:=eqz c6
  rw[(aT c0 (cL c1 c2) c3).1,(aT c0 (cL c1 c2) c3).2,e]; rfl
 constructor<;>intro c7
 ·have e:=eqz c7
  rw[(aT c0 (cL c1 c2) c3).1,(aT c0 (cL c1 c2) c3).2,e]; rfl
 constructor<;>intro c8
 ·have e:=eqz c8
  rw[(aT c0 (cL c1 c2) c3).1,(aT c0 (cL c1 c2) c3).2,e]; rfl
 constructor<;>intro c9
 ·have e:=eqz c9
  rw[(aT c0 (cL c1 c2) c3).1,(aT c0 (cL c1 c2) c3).2,e]; rfl
 constructor<;>intro c10
 ·have e:=eqz c10
  rw[(aT c0 (cL c1 c2) c3).1,(aT c0 (cL c1 c2) c3).2,e]; rfl
 constructor<;>intro c11
 ·have e:=eqz c11
  rw[(aT c0 (cL c1 c2) c3).1,(aT c0 (cL c1 c2) c3).2,e]; rfl
 ·exact afq c0 rfl c4 c5 c6 c7 c8 c9 c10 c11
 obtain⟨q1,q2,q3,q4,q5⟩:=qi c0
 refine⟨fun ds=>∃n:Int,ds=.z n::anW (sput s (pbet (lo / 8) n) fJ)/\lo / 8<=n/\n<=(hi+size-1) / 8+1,fun ds=>(100-dI ds 0).toNat,⟨lo / 8,by rw[quo8 q2 (by omega),acP (fun k h0 h1=>by unfold pbet; simp)]; try rfl,by omega,by omega⟩,?_⟩
 intro U1 ha1 _ hi1
 obtain⟨n,hds,r1,r2⟩:=hi1
 simp only[anW,thm5,Dt.z.injEq,Nat.reduceAdd,and_true] at hds
 have keepg1:=(pS ha1 _ 0 (by decide)).trans keepg
 have g1:=keepg1
 simp only[d_Ty,v_Ty,ay,bZ,apO,anO,d_Fr,v_Fr,ab,varD,thm5,Dt.z.injEq,Dt.l.injEq,b2i_eq_iff,Nat.reduceAdd,and_true] at g1
 simp only[g1,hds,-eq_self]
 constructor<;>intro c12
 ·have h9:=thm3 c12
  have q6:=(oP c0).1
  rw[q6] at h9
  rw[(mq c0 (cL c1 c2) c3).1,(mq c0 (cL c1 c2) c3).2,<-ano c0 (n:=n) (by omega) (by omega)]; rfl
 intro e; (try simp only[e,ao,Prog.eta,Ins.eta,ae,af,-eq_self]); clear e
 constructor<;>intro c13
 ·have h9:=thm2 c12
  have q6:=(oP c0).1
  rw[q6] at h9
  have e:=eqz c13
  subst e
  refine⟨⟨1,?_,by omega,by omega⟩,?_⟩
  ·rw[ag8 (q:=pbet (lo / 8) 1) (p:=pbet (lo / 8) 0) (fun k _ _=>eg (n:=0) (by omega))]; rfl
  ·show(100-(1:Int)).toNat<(100-(0:Int)).toNat; decide
 constructor<;>intro c14
 ·have h9:=thm2 c12
  have q6:=(oP c0).1
  rw[q6] at h9
  have e:=eqz c14
  subst e
  refine⟨⟨2,?_,by omega,by omega⟩,?_⟩
  ·rw[ag7 (q:=pbet (lo / 8) 2) (p:=pbet (lo / 8) 1) (fun k _ _=>eg (n:=1) (by omega))]; rfl
  ·show(100-(2:Int)).toNat<(100-(1:Int)).toNat; decide
 constructor<;>intro c15
 ·have h9:=thm2 c12
  have q6:=(oP c0).1
  rw[q6] at h9
  have e:=eqz c15
  subst e
  refine⟨⟨3,?_,by omega,by omega⟩,?_⟩
  ·rw[ag6 (q:=pbet (lo / 8) 3) (p:=pbet (lo / 8) 2) (fun k _ _=>eg (n:=2) (by omega))]; rfl
  ·show(100-(3:Int)).toNat<(100-(2:Int)).toNat; decide
 constructor<;>intro c16
 ·have h9:=thm2 c12
  have q6:=(oP c0).1
  rw[q6] at h9
  have e:=eqz c16
  subst e
  refine⟨⟨4,?_,by omega,by omega⟩,?_⟩
  ·rw[ag5 (q:=pbet (lo / 8) 4) (p:=pbet (lo / 8) 3) (fun k _ _=>eg (n:=3) (by omega))]; rfl
  ·show(100-(4:Int)).toNat<(100-(3:Int)).toNat; decide
 constructor<;>intro c17
 ·have h9:=thm2 c12
  have q6:=(oP c0).1
  rw[q6] at h9
  have e:=eqz c17
  subst e
  refine⟨⟨5,?_,by omega,by omega⟩,?_⟩
  ·rw[ag4 (q:=pbet (lo / 8) 5) (p:=pbet (lo / 8) 4) (fun k _ _=>eg (n:=4) (by omega))]; rfl
  ·show(100-(5:Int)).toNat<(100-(4:Int)).toNat; decide
 constructor<;>intro c18
 ·have h9:=thm2 c12
  have q6:=(oP c0).1
  rw[q6] at h9
  have e:=eqz c18
  subst e
  refine⟨⟨6,?_,by omega,by omega⟩,?_⟩
  ·rw[ag3 (q:=pbet (lo / 8) 6) (p:=pbet (lo / 8) 5) (fun k _ _=>eg (n:=5) (by omega))]; rfl
  ·show(100-(6:Int)).toNat<(100-(5:Int)).toNat; decide
 constructor<;>intro c19
 ·have h9:=thm2 c12
  have q6:=(oP c0).1
  rw[q6] at h9
  have e:=eqz c19
  subst e
  refine⟨⟨7,?_,by omega,by omega⟩,?_⟩
  ·rw[ag2 (q:=pbet (lo / 8) 7) (p:=pbet (lo / 8) 6) (fun k _ _=>eg (n:=6) (by omega))]; rfl
  ·show(100-(7:Int)).toNat<(100-(6:Int)).toNat; decide
 constructor<;>intro c20
 ·have h9:=thm2 c12
  have q6:=(oP c0).1
  rw[q6] at h9
  have e:=eqz c20
  subst e
  refine⟨⟨8,?_,by omega,by omega⟩,?_⟩
  ·rw[ag0 (q:=pbet (lo / 8) 8) (p:=pbet (lo / 8) 7) (fun k _ _=>eg (n:=7) (by omega))]; rfl
  ·show(100-(8:Int)).toNat<(100-(7:Int)).toNat; decide
 ·have h9:=thm2 c12
  have q6:=(oP c0).1
  rw[q6] at h9
  simp only[beq_eq_false_iff_ne] at c13 c14 c15 c16 c17 c18 c19 c20
  omega
 ·rw[(eB (.inr (ajt c2))).1,(eB (.inr (ajt c2))).2]; rfl
 ·rw[(eB (.inl c0)).1,(eB (.inl c0)).2]; rfl
theorem aeP {sp:Spec} {key:Nat} (hF:sp.F key=cW) (hP:sp.pre key=fun _=>True:=by rfl):SmOk Tryz.prog sp (mU key):=
 av (s:=mU key) hF hP (by kernel_rfl) abW (smc (aeW rfl) (smc (aeT rfl) (smc (aeO rfl) (smc (ji rfl) sm0)))) Tryz.func83 fn0 adL (.inl rfl) (dj fun q0 gq0=>fun x171 gx171 x172 gx172 x173 gx173=>bj fun q7 gq7=>fun hp U g=>adf q0 gq0 x171 gx171 x172 gx172 x173 gx173 q7 gq7 U g)
end Go.Proofs.YtfkhblmeioiciaaGreatDoor
