import Derived.Test.YtfkhblmeioiciaaGreatDoorSdD
import Derived.Test.YtfkhblmeioiciaaGreatDoorVyB
import Derived.Test.YtfkhblmeioiciaaGreatDoorProg
import Derived.Laws.Externs
set_option maxRecDepth 100000
set_option maxHeartbeats 8000000
set_option linter.defProp false
set_option linter.unusedVariables false
set_option linter.unusedSimpArgs false
namespace Go.Proofs.YtfkhblmeioiciaaGreatDoor
open Go.RowKit Go.ChangeShapes Go.WideShapes
def tys_SdE:List (Nat×TI):=[(2,tiq2),
 (3,tiq3),
 (37,ig),
 (42,fP),
 (44,ic),
 (46,kD),
 (48,dW),
 (50,tO),
 (51,wk),
 (52,wj),
 (54,ac0)]
theorem acR:(tys_SdE.all fun p=>ckTI Tryz.prog p.1 p.2)=true:=by kernel_rfl
theorem tI:(tys_SdE.all fun p=>!p.2.eqok||((Nat.beq p.1 48&&aX p.2.zero z_Sc)||(Nat.beq p.1 50&&aX p.2.zero z_Ty)))=true:=by kernel_rfl
theorem acx:(tys_SdE.all fun p=>!p.2.keyok)=true:=by kernel_rfl
theorem mD:∀t i,(t,i)∈tys_SdE->TIok Tryz.prog t i:=by
 intro t i h
 refine bE (cC (f:=ckTI Tryz.prog) acR h) (fun he=> ?_) (fun he=> ?_) (fun he=> ?_)
 ·have h1:=thm7.1 tI (t,i) h
  simp only[he,Bool.not_true,Bool.false_or,bG,thm0] at h1
  rcases h1 with h1 | h1
  ·have hs:=h1.2
   obtain rfl:=thm1 h1.1
   exact fun vs us hv hu=>vK vs us (ar hs hv) (ar hs hu)
  ·have hs:=h1.2
   obtain rfl:=thm1 h1.1
   exact fun vs us hv hu=>vJ vs us (ar hs hv) (ar hs hu)
 ·have h1:=thm7.1 tI (t,i) h
  simp only[he,Bool.not_true,Bool.false_or,bG,thm0] at h1
  rcases h1 with h1 | h1
  ·have hs:=h1.2
   obtain rfl:=thm1 h1.1
   exact lN
  ·have hs:=h1.2
   obtain rfl:=thm1 h1.1
   exact lM
 ·have h1:=thm7.1 acx (t,i) h
  simp[he] at h1
def rG (key:Nat):Sm:=⟨146,key,[.agg kSta,.one (.int .i64),.one (.int .i64),.one (.int .i64)],[.one .bool],false⟩
def qR (s:Sta) (lo:Int) (hi:Int) (size:Int):List Dt:=[.z (b2i (smac s lo hi size))]
def gm:List Dt->List Dt:=cg fun s=>rdZ fun lo=>rdZ fun hi=>rdZ fun size=>fun _=>qR s lo hi size
def sT_tacc:Tr:=
(.br (.eq (.var 173) (.lit 1))
(.br (.lt (.var 171) (.lit 0))
(.leaf (.cb (.tt false) .nil))
(.br (.lt (.var 172) (.var 171))
(.leaf (.cb (.tt false) .nil))
(.br (.lt (.bin .sub .i64 (.lit 64) (.var 173)) (.var 172))
(.leaf (.cb (.tt false) .nil))
(.call 0 [.bool] (.vs 0 171 .nil) 174
(.leaf (.cb (.bw 174) .nil))))))
(.br (.eq (.var 173) (.lit 2))
(.br (.lt (.var 171) (.lit 0))
(.leaf (.cb (.tt false) .nil))
(.br (.lt (.var 172) (.var 171))
(.leaf (.cb (.tt false) .nil))
(.br (.lt (.bin .sub .i64 (.lit 64) (.var 173)) (.var 172))
(.leaf (.cb (.tt false) .nil))
(.call 0 [.bool] (.vs 0 171 .nil) 174
(.leaf (.cb (.bw 174) .nil))))))
(.br (.eq (.var 173) (.lit 4))
(.br (.lt (.var 171) (.lit 0))
(.leaf (.cb (.tt false) .nil))
(.br (.lt (.var 172) (.var 171))
(.leaf (.cb (.tt false) .nil))
(.br (.lt (.bin .sub .i64 (.lit 64) (.var 173)) (.var 172))
(.leaf (.cb (.tt false) .nil))
(.call 0 [.bool] (.vs 0 171 .nil) 174
(.leaf (.cb (.bw 174) .nil))))))
(.br (.eq (.var 173) (.lit 8))
(.br (.lt (.var 171) (.lit 0))
(.leaf (.cb (.tt false) .nil))
(.br (.lt (.var 172) (.var 171))
(.leaf (.cb (.tt false) .nil))
(.br (.lt (.bin .sub .i64 (.lit 64) (.var 173)) (.var 172))
(.leaf (.cb (.tt false) .nil))
(.call 0 [.bool] (.vs 0 171 .nil) 174
(.leaf (.cb (.bw 174) .nil))))))
(.leaf (.cb (.tt false) .nil))))))
def aeE:Spec:={F:=fun k=>match k with | 0=>eC | _=>fun _=>[],pre:=fun _ _=>True}
theorem anc:ap tys_SdE [nl 0] [] [] [] 200 Tryz.f146 [.agg kSta,.one (.int .i64),.one (.int .i64),.one (.int .i64)] [.one .bool] false (bY (.int .i64::(.int .i64::(.int .i64::([]))))) sT_tacc:=⟨by kernel_rfl,by kernel_rfl,by kernel_rfl⟩
def cZ:=And.intro Prog.eta (Ins.eta)
theorem amw (s:Sta) (hs:Sta.ok s) (lo:Int) (hlo:inK .i64 lo=true) (hi:Int) (hhi:inK .i64 hi=true) (size:Int) (hsize:inK .i64 size=true) (U:Env) (g:varsD U 0 (bY (.int .i64::(.int .i64::(.int .i64::([])))))=(ax s (.z lo::(.z hi::(.z size::([])))))):sT_tacc.asks aeE (fun U e=>e.D U=gm (ax s (.z lo::(.z hi::(.z size::([])))))) U fun _ _=>False:=by
 simp only[gm,bP,fC,rdZ,rdB]
 simp only[ax,d_Ty,bY,v_Ty,varsD,varD,thm5,gS0,Nat.reduceAdd,and_true] at g
 simp(maxSteps:=10000000) only[sT_tacc,aeE,ax,d_Ty,cg,cH,rdZ,eC,mN,gm,qR,simQ,af,S1,Nat.reduceSub,Nat.reduceAdd,-eq_self,am,cZ,ab,ae,g]
 constructor<;>intro c0
 constructor<;>intro c1
 ·rw[qv c1]
 constructor<;>intro c2
 ·rw[qx c2]
 constructor<;>intro c3
 ·rw[lW c3]
 intro e;(try simp only[e,am,cZ,ab,ae,-eq_self]);clear e
 ·rw[qw (.inl c0) c1 c2,c3,Bool.not_false,Bool.true_and]
 constructor<;>intro c4
 constructor<;>intro c5
 ·rw[qv c5]
 constructor<;>intro c6
 ·rw[qx c6]
 constructor<;>intro c7
 ·rw[lW c7]
 intro e;(try simp only[e,am,cZ,ab,ae,-eq_self]);clear e
 ·rw[qw (.inr (.inl c4)) c5 c6,c7,Bool.not_false,Bool.true_and]
 constructor<;>intro c8
 constructor<;>intro c9
 ·rw[qv c9]
 constructor<;>intro c10
 ·rw[qx c10]
 constructor<;>intro c11
 ·rw[lW c11]
 intro e;(try simp only[e,am,cZ,ab,ae,-eq_self]);clear e
 ·rw[qw (.inr (.inr (.inl c8))) c9 c10,c11,Bool.not_false,Bool.true_and]
 constructor<;>intro c12
 constructor<;>intro c13
 ·rw[qv c13]
 constructor<;>intro c14
 ·rw[qx c14]
 constructor<;>intro c15
 ·rw[lW c15]
 intro e;(try simp only[e,am,cZ,ab,ae,-eq_self]);clear e
 ·rw[qw (.inr (.inr (.inr c12))) c13 c14,c15,Bool.not_false,Bool.true_and]
 ·rw[adv c0 c4 c8 c12]
theorem afm {sp:Spec} {key:Nat} (hF:sp.F key=gm) (hP:sp.pre key=fun _=>True:=by rfl):SmOk Tryz.prog sp (rG key):=
 au (s:=rG key) hF hP (by kernel_rfl) mD (smc (xx rfl) sm0) Tryz.func146 fn0 anc (.inl rfl) (dq fun q0 gq0=>fun x171 gx171 x172 gx172 x173 gx173 hp U g=>amw q0 gq0 x171 gx171 x172 gx172 x173 gx173 U g)
def rD (key:Nat):Sm:=⟨147,key,[.one (.int .i64),.one (.int .i64),.one (.int .i64)],[.one (.int .i64),.one .bool],true⟩
def qO (lo:Int) (hi:Int) (size:Int):List Dt:=[.z (opI .quo .i64 lo 8),.z (b2i (sone lo hi size))]
def iR:List Dt->List Dt
 | [.z x0,.z x1,.z x2]=>qO x0 x1 x2
 | _=>[]
def ak7:Tr:=(.leaf (.cons (.bin .quo .i64 (.var 0) (.lit 8)) (.cb (.tt false) .nil)))
def sT_texa:Tr:=
(.br (.eq (.var 2) (.lit 8))
(.br (.eq (.var 0) (.var 1))
(.leaf (.cons (.bin .quo .i64 (.var 0) (.lit 8)) (.cb (.eq (.bin .rem .i64 (.var 0) (.lit 8)) (.lit 0)) .nil)))
 ak7)
 ak7)
def aeD:Spec:={F:=fun k=>match k with | _=>fun _=>[],pre:=fun _ _=>True}
theorem anb:ap tys_SdE [] [] [] [] 200 Tryz.f147 [.one (.int .i64),.one (.int .i64),.one (.int .i64)] [.one (.int .i64),.one .bool] true [.int .i64,.int .i64,.int .i64] sT_texa:=⟨by kernel_rfl,by kernel_rfl,by kernel_rfl⟩
theorem amv (lo:Int) (hlo:inK .i64 lo=true) (hi:Int) (hhi:inK .i64 hi=true) (size:Int) (hsize:inK .i64 size=true) (U:Env) (g:varsD U 0 [.int .i64,.int .i64,.int .i64]=[.z lo,.z hi,.z size]):sT_texa.asks aeD (fun U e=>e.D U=iR [.z lo,.z hi,.z size]) U fun _ _=>False:=by
 simp only[varsD,varD,thm5,gS0,Nat.reduceAdd,and_true] at g
 simp only[sT_texa,ak7,aeD,iR,qO,simQ,af,S1,Nat.reduceSub,Nat.reduceAdd,-eq_self,am,cZ,ab,ae,g]
 constructor<;>intro c0
 constructor<;>intro c1
 ·unfold sone;rw[c0,c1];rfl
 ·rw[al2 c1]
 ·rw[al3 c0]
theorem afj {sp:Spec} {key:Nat} (hF:sp.F key=iR) (hP:sp.pre key=fun _=>True:=by rfl):SmOk Tryz.prog sp (rD key):=
 au (s:=rD key) hF hP (by kernel_rfl) mD (sm0) Tryz.func147 fn0 anb (.inl rfl) (fun x0 gx0 x1 gx1 x2 gx2 hp U g=>amv x0 gx0 x1 gx1 x2 gx2 U g)
def rA (key:Nat):Sm:=⟨82,key,[.agg kSta,.one (.int .i64),.one (.int .i64),.one (.int .i64)],[.agg kTy,.one (.int .i64)],true⟩
def yU (s:Sta) (lo:Int) (hi:Int) (size:Int):List Dt:=d_Ty (qA s lo hi size) (.z (qB s lo hi size)::([]))
def ee:List Dt->List Dt:=cg fun s=>rdZ fun lo=>rdZ fun hi=>rdZ fun size=>fun _=>yU s lo hi size
def sT_tload:Tr:=
(.call 0 [.bool] (.vs 0 174 .nil) 174
(.br (.bw 174)
(.call 1 [.int .i64,.bool] (.vs 171 3 .nil) 175
(.br (.bw 176)
(.br (.eq (.var 175) (.lit 0))
(.leaf (.vs 99 9 (.cons (.lit 0) .nil)))
(.br (.eq (.var 175) (.lit 1))
(.leaf (.vs 108 9 (.cons (.lit 0) .nil)))
(.br (.eq (.var 175) (.lit 2))
(.leaf (.vs 117 9 (.cons (.lit 0) .nil)))
(.br (.eq (.var 175) (.lit 3))
(.leaf (.vs 126 9 (.cons (.lit 0) .nil)))
(.br (.eq (.var 175) (.lit 4))
(.leaf (.vs 135 9 (.cons (.lit 0) .nil)))
(.br (.eq (.var 175) (.lit 5))
(.leaf (.vs 144 9 (.cons (.lit 0) .nil)))
(.br (.eq (.var 175) (.lit 6))
(.leaf (.vs 153 9 (.cons (.lit 0) .nil)))
(.br (.eq (.var 175) (.lit 7))
(.leaf (.vs 162 9 (.cons (.lit 0) .nil)))
.panic))))))))
(.call 2 (kSc) (.cons (.var 173) .nil) 177
(.leaf (.cons (.lit 1) (.vs 177 6 (.zs [0,0,0] .nil)))))))
(.leaf (.zs [0,0,0,0,0,0,0,0,0,2] .nil))))
def zl:Spec:={F:=fun k=>match k with | 0=>gm | 1=>iR | 2=>iu | _=>fun _=>[],pre:=fun _ _=>True}
theorem aiF:ap tys_SdE [rG 0,rD 1,uK 2] [] [] [] 200 Tryz.f82 [.agg kSta,.one (.int .i64),.one (.int .i64),.one (.int .i64)] [.agg kTy,.one (.int .i64)] true (bY (.int .i64::(.int .i64::(.int .i64::([]))))) sT_tload:=⟨by kernel_rfl,by kernel_rfl,by kernel_rfl⟩
theorem aib (s:Sta) (hs:Sta.ok s) (lo:Int) (hlo:inK .i64 lo=true) (hi:Int) (hhi:inK .i64 hi=true) (size:Int) (hsize:inK .i64 size=true) (U:Env) (g:varsD U 0 (bY (.int .i64::(.int .i64::(.int .i64::([])))))=(ax s (.z lo::(.z hi::(.z size::([])))))):sT_tload.asks zl (fun U e=>e.D U=ee (ax s (.z lo::(.z hi::(.z size::([])))))) U fun _ _=>False:=by
 simp only[ee,bP,fC,rdZ,rdB]
 simp only[ax,d_Ty,bY,v_Ty,varsD,varD,thm5,gS0,Nat.reduceAdd,and_true] at g
 simp(maxSteps:=10000000) only[sT_tload,zl,ax,d_Ty,kSc,cg,cH,rdZ,gm,iR,iu,qR,qO,yS,ee,yU,simQ,af,S1,Nat.reduceSub,Nat.reduceAdd,-eq_self,am,cZ,ab,ae,g]
 intro e;(try simp only[e,am,cZ,ab,ae,-eq_self]);clear e
 constructor<;>intro c0
 intro e;(try simp only[e,am,cZ,ab,ae,-eq_self]);clear e
 constructor<;>intro c1
 constructor<;>intro c2
 ·rw[(bi c0 c1).1,(bi c0 c1).2,eqz c2];rfl
 constructor<;>intro c3
 ·rw[(bi c0 c1).1,(bi c0 c1).2,eqz c3];rfl
 constructor<;>intro c4
 ·rw[(bi c0 c1).1,(bi c0 c1).2,eqz c4];rfl
 constructor<;>intro c5
 ·rw[(bi c0 c1).1,(bi c0 c1).2,eqz c5];rfl
 constructor<;>intro c6
 ·rw[(bi c0 c1).1,(bi c0 c1).2,eqz c6];rfl
 constructor<;>intro c7
 ·rw[(bi c0 c1).1,(bi c0 c1).2,eqz c7];rfl
 constructor<;>intro c8
 ·rw[(bi c0 c1).1,(bi c0 c1).2,eqz c8];rfl
 constructor<;>intro c9
 ·rw[(bi c0 c1).1,(bi c0 c1).2,eqz c9];rfl
 ·exact afR c0 rfl c2 c3 c4 c5 c6 c7 c8 c9
 intro e;(try simp only[e,am,cZ,ab,ae,-eq_self]);clear e
 ·rw[(pk c0 c1).1,(pk c0 c1).2];rfl
 ·rw[(yM c0).1,(yM c0).2];rfl
theorem ai4 {sp:Spec} {key:Nat} (hF:sp.F key=ee) (hP:sp.pre key=fun _=>True:=by rfl):SmOk Tryz.prog sp (rA key):=
 au (s:=rA key) hF hP (by kernel_rfl) mD (smc (afm rfl) (smc (afj rfl) (smc (afa rfl) sm0))) Tryz.func82 fn0 aiF (.inl rfl) (dq fun q0 gq0=>fun x171 gx171 x172 gx172 x173 gx173 hp U g=>aib q0 gq0 x171 gx171 x172 gx172 x173 gx173 U g)
end Go.Proofs.YtfkhblmeioiciaaGreatDoor
