import Derived.Test.YtfkhblmeioiciaaGreatDoorSdD
import Derived.Test.YtfkhblmeioiciaaGreatDoorVyB
import Derived.Test.YtfkhblmeioiciaaGreatDoorProg
import Derived.Laws.Externs
set_option maxRecDepth 100000
set_option maxHeartbeats 8000000
set_option linter.unusedVariables false
set_option linter.unusedSimpArgs false
namespace Go.Proofs.YtfkhblmeioiciaaGreatDoor
open Go.RowKit Go.ChangeShapes Go.WideShapes
def tys_SdE:List (Nat×TI):=[(2,⟨false,1,[.int .i64 (.lit 0)],[],none,some .i64,false,false,none,8,false,none,false,0⟩),
 (3,⟨false,1,[.int .i64 (.lit 0)],[],none,some .i64,false,false,none,8,false,none,false,0⟩),
 (37,⟨false,1,[.int .i8 (.lit 0)],[],none,some .i8,false,false,none,1,false,none,false,0⟩),
 (42,⟨false,1,[.int .u64 (.lit 0)],[],none,some .u64,false,false,none,8,false,none,false,0⟩),
 (44,⟨true,4,(zN 4 2211),[(0,42),(1,42),(2,2),(3,2)],none,none,false,false,none,32,false,none,false,0⟩),
 (46,⟨true,2,[.int .u64 (.lit 0),.int .u64 (.lit 0)],[(0,42),(1,42)],none,none,false,false,none,16,false,none,false,0⟩),
 (48,⟨true,6,(zN 6 112211),[(0,44),(4,46)],none,none,true,false,none,48,false,none,false,0⟩),
 (50,⟨true,9,(zN 9 221122110),[(0,37),(1,48),(7,3),(8,3)],none,none,true,false,none,72,false,none,false,0⟩),
 (51,⟨true,99,(zN 99 221122110221122110221122110221122110221122110221122110221122110221122110221122110221122110221122110),[],some (11,50),none,false,false,none,792,false,none,false,0⟩),
 (52,⟨true,72,(zN 72 221122110221122110221122110221122110221122110221122110221122110221122110),[],some (8,50),none,false,false,none,576,false,none,false,0⟩),
 (54,⟨true,171,(zN 171 221122110221122110221122110221122110221122110221122110221122110221122110221122110221122110221122110221122110221122110221122110221122110221122110221122110221122110221122110),[(0,51),(99,52)],none,none,false,false,none,1368,false,none,false,0⟩)]
theorem acw:(tys_SdE.all fun p=>ckTI Tryz.prog p.1 p.2)=true:=by kernel_rfl
theorem sZ:(tys_SdE.all fun p=>!p.2.eqok||((Nat.beq p.1 48&&aY p.2.zero z_Sc)||(Nat.beq p.1 50&&aY p.2.zero z_Ty)))=true:=by kernel_rfl
theorem acb:(tys_SdE.all fun p=>!p.2.keyok)=true:=by kernel_rfl
theorem mm:∀t i,(t,i)∈tys_SdE->TIok Tryz.prog t i:=by
 intro t i h
 refine bC (cz (f:=ckTI Tryz.prog) acw h) (fun he=> ?_) (fun he=> ?_) (fun he=> ?_)
 ·have h1:=thm7.1 sZ (t,i) h
  simp only[he,Bool.not_true,Bool.false_or,Bool.or_eq_true,thm0] at h1
  rcases h1 with h1 | h1
  ·have hs:=h1.2
   obtain rfl:=thm1 h1.1
   exact fun vs us hv hu=>vn vs us (au hs hv) (au hs hu)
  ·have hs:=h1.2
   obtain rfl:=thm1 h1.1
   exact fun vs us hv hu=>vm vs us (au hs hv) (au hs hu)
 ·have h1:=thm7.1 sZ (t,i) h
  simp only[he,Bool.not_true,Bool.false_or,Bool.or_eq_true,thm0] at h1
  rcases h1 with h1 | h1
  ·have hs:=h1.2
   obtain rfl:=thm1 h1.1
   exact lz
  ·have hs:=h1.2
   obtain rfl:=thm1 h1.1
   exact ly
 ·have h1:=thm7.1 acb (t,i) h
  simp[he] at h1
def rj (key:Nat):Sm:=⟨146,key,[.agg kSta,.one (.int .i64),.one (.int .i64),.one (.int .i64)],[.one .bool],false⟩
def qB (s:Sta) (lo:Int) (hi:Int) (size:Int):List Dt:=[.z (b2i (smac s lo hi size))]
def fT:List Dt->List Dt:=cg fun s=>rdZ fun lo=>rdZ fun hi=>rdZ fun size=>fun _=>qB s lo hi size
def sT_tacc:Tr:=
(.br (.eq (.var 173) (.lit 1))
(.br (.lt (.var 171) (.lit 0))
(.leaf (.consb (.tt false) .nil))
(.br (.lt (.var 172) (.var 171))
(.leaf (.consb (.tt false) .nil))
(.br (.lt (.bin .sub .i64 (.lit 64) (.var 173)) (.var 172))
(.leaf (.consb (.tt false) .nil))
(.call 0 [.bool] (.vs 0 171 .nil) 174
(.leaf (.consb (.bvar 174) .nil))))))
(.br (.eq (.var 173) (.lit 2))
(.br (.lt (.var 171) (.lit 0))
(.leaf (.consb (.tt false) .nil))
(.br (.lt (.var 172) (.var 171))
(.leaf (.consb (.tt false) .nil))
(.br (.lt (.bin .sub .i64 (.lit 64) (.var 173)) (.var 172))
(.leaf (.consb (.tt false) .nil))
(.call 0 [.bool] (.vs 0 171 .nil) 174
(.leaf (.consb (.bvar 174) .nil))))))
(.br (.eq (.var 173) (.lit 4))
(.br (.lt (.var 171) (.lit 0))
(.leaf (.consb (.tt false) .nil))
(.br (.lt (.var 172) (.var 171))
(.leaf (.consb (.tt false) .nil))
(.br (.lt (.bin .sub .i64 (.lit 64) (.var 173)) (.var 172))
(.leaf (.consb (.tt false) .nil))
(.call 0 [.bool] (.vs 0 171 .nil) 174
(.leaf (.consb (.bvar 174) .nil))))))
(.br (.eq (.var 173) (.lit 8))
(.br (.lt (.var 171) (.lit 0))
(.leaf (.consb (.tt false) .nil))
(.br (.lt (.var 172) (.var 171))
(.leaf (.consb (.tt false) .nil))
(.br (.lt (.bin .sub .i64 (.lit 64) (.var 173)) (.var 172))
(.leaf (.consb (.tt false) .nil))
(.call 0 [.bool] (.vs 0 171 .nil) 174
(.leaf (.consb (.bvar 174) .nil))))))
(.leaf (.consb (.tt false) .nil))))))
def aef:Spec:={F:=fun k=>match k with | 0=>eo | _=>fun _=>[],pre:=fun k=>match k with | _=>fun _=>True}
theorem alS:aq tys_SdE [mW 0] [] [] [] 200 Tryz.f146 [.agg kSta,.one (.int .i64),.one (.int .i64),.one (.int .i64)] [.one .bool] false (bZ (.int .i64::(.int .i64::(.int .i64::([]))))) sT_tacc:=⟨by kernel_rfl,by kernel_rfl,by kernel_rfl⟩
set_option linter.defProp false in
def cS:=And.intro Prog.eta (Ins.eta)
theorem ala (s:Sta) (hs:Sta.ok s) (lo:Int) (hlo:inK .i64 lo=true) (hi:Int) (hhi:inK .i64 hi=true) (size:Int) (hsize:inK .i64 size=true) (U:Env) (g:ab U 0 (bZ (.int .i64::(.int .i64::(.int .i64::([])))))=(ay s (.z lo::(.z hi::(.z size::([])))))):sT_tacc.asks aef (fun U e=>e.D U=fT (ay s (.z lo::(.z hi::(.z size::([])))))) U fun _ _=>False:=by
 simp only[fT,bQ,fl,rdZ,rdB]
 simp only[ay,d_Ty,bZ,v_Ty,ab,varD,thm5,Dt.z.injEq,Dt.l.injEq,b2i_eq_iff,Nat.reduceAdd,and_true] at g
 simp(maxSteps:=10000000) only[sT_tacc,aef,ay,d_Ty,cg,cG,rdZ,eo,mB,fT,qB,Tr.asks,ah,okDs,okD,eqs,E.I,E.B,E.L,E.R,E.D,E.vs,E.gs,E.ins,E.sv,E.tn,E.iv,E.zs,E.zr,E.sg,E.tg,E.rg,E.rgs,E.pv,Nat.reduceSub,dI,dB,dL,varD,ab,S1,Nat.reduceAdd,-eq_self,ao,cS,ae,af,g]
 constructor<;>intro c0
 constructor<;>intro c1
 ·rw[qf c1]
 constructor<;>intro c2
 ·rw[qh c2]
 constructor<;>intro c3
 ·rw[lI c3]
 intro e; (try simp only[e,ao,cS,ae,af,-eq_self]); clear e
 ·rw[qg (.inl c0) c1 c2,c3,Bool.not_false,Bool.true_and]
 constructor<;>intro c4
 constructor<;>intro c5
 ·rw[qf c5]
 constructor<;>intro c6
 ·rw[qh c6]
 constructor<;>intro c7
 ·rw[lI c7]
 intro e; (try simp only[e,ao,cS,ae,af,-eq_self]); clear e
 ·rw[qg (.inr (.inl c4)) c5 c6,c7,Bool.not_false,Bool.true_and]
 constructor<;>intro c8
 constructor<;>intro c9
 ·rw[qf c9]
 constructor<;>intro c10
 ·rw[qh c10]
 constructor<;>intro c11
 ·rw[lI c11]
 intro e; (try simp only[e,ao,cS,ae,af,-eq_self]); clear e
 ·rw[qg (.inr (.inr (.inl c8))) c9 c10,c11,Bool.not_false,Bool.true_and]
 constructor<;>intro c12
 constructor<;>intro c13
 ·rw[qf c13]
 constructor<;>intro c14
 ·rw[qh c14]
 constructor<;>intro c15
 ·rw[lI c15]
 intro e; (try simp only[e,ao,cS,ae,af,-eq_self]); clear e
 ·rw[qg (.inr (.inr (.inr c12))) c13 c14,c15,Bool.not_false,Bool.true_and]
 ·rw[ac4 c0 c4 c8 c12]
theorem aeW {sp:Spec} {key:Nat} (hF:sp.F key=fT) (hP:sp.pre key=fun _=>True:=by rfl):SmOk Tryz.prog sp (rj key):=
 av (s:=rj key) hF hP (by kernel_rfl) mm (smc (wX rfl) sm0) Tryz.func146 fn0 alS (.inl rfl) (dj fun q0 gq0=>fun x171 gx171 x172 gx172 x173 gx173 hp U g=>ala q0 gq0 x171 gx171 x172 gx172 x173 gx173 U g)
def rb (key:Nat):Sm:=⟨147,key,[.one (.int .i64),.one (.int .i64),.one (.int .i64)],[.one (.int .i64),.one .bool],true⟩
def qx (lo:Int) (hi:Int) (size:Int):List Dt:=[.z (opI .quo .i64 lo 8),.z (b2i (sone lo hi size))]
def iA:List Dt->List Dt
 | [.z x0,.z x1,.z x2]=>qx x0 x1 x2
 | _=>[]
def sT_texa:Tr:=
(.br (.eq (.var 2) (.lit 8))
(.br (.eq (.var 0) (.var 1))
(.leaf (.cons (.bin .quo .i64 (.var 0) (.lit 8)) (.consb (.eq (.bin .rem .i64 (.var 0) (.lit 8)) (.lit 0)) .nil)))
(.leaf (.cons (.bin .quo .i64 (.var 0) (.lit 8)) (.consb (.tt false) .nil))))
(.leaf (.cons (.bin .quo .i64 (.var 0) (.lit 8)) (.consb (.tt false) .nil))))
def aee:Spec:={F:=fun k=>match k with | _=>fun _=>[],pre:=fun k=>match k with | _=>fun _=>True}
theorem alR:aq tys_SdE [] [] [] [] 200 Tryz.f147 [.one (.int .i64),.one (.int .i64),.one (.int .i64)] [.one (.int .i64),.one .bool] true [.int .i64,.int .i64,.int .i64] sT_texa:=⟨by kernel_rfl,by kernel_rfl,by kernel_rfl⟩
theorem ak9 (lo:Int) (hlo:inK .i64 lo=true) (hi:Int) (hhi:inK .i64 hi=true) (size:Int) (hsize:inK .i64 size=true) (U:Env) (g:ab U 0 [.int .i64,.int .i64,.int .i64]=[.z lo,.z hi,.z size]):sT_texa.asks aee (fun U e=>e.D U=iA [.z lo,.z hi,.z size]) U fun _ _=>False:=by
 simp only[ab,varD,thm5,Dt.z.injEq,Dt.l.injEq,b2i_eq_iff,Nat.reduceAdd,and_true] at g
 simp only[sT_texa,aee,iA,qx,Tr.asks,ah,okDs,okD,eqs,E.I,E.B,E.L,E.R,E.D,E.vs,E.gs,E.ins,E.sv,E.tn,E.iv,E.zs,E.zr,E.sg,E.tg,E.rg,E.rgs,E.pv,Nat.reduceSub,dI,dB,dL,varD,ab,S1,Nat.reduceAdd,-eq_self,ao,cS,ae,af,g]
 constructor<;>intro c0
 constructor<;>intro c1
 ·unfold sone; rw[c0,c1]; rfl
 ·rw[akH c1]
 ·rw[akI c0]
theorem aeT {sp:Spec} {key:Nat} (hF:sp.F key=iA) (hP:sp.pre key=fun _=>True:=by rfl):SmOk Tryz.prog sp (rb key):=
 av (s:=rb key) hF hP (by kernel_rfl) mm (sm0) Tryz.func147 fn0 alR (.inl rfl) (fun x0 gx0 x1 gx1 x2 gx2 hp U g=>ak9 x0 gx0 x1 gx1 x2 gx2 U g)
def qZ (key:Nat):Sm:=⟨82,key,[.agg kSta,.one (.int .i64),.one (.int .i64),.one (.int .i64)],[.agg kTy,.one (.int .i64)],true⟩
def yw (s:Sta) (lo:Int) (hi:Int) (size:Int):List Dt:=d_Ty (qj s lo hi size) (.z (qk s lo hi size)::([]))
def dX:List Dt->List Dt:=cg fun s=>rdZ fun lo=>rdZ fun hi=>rdZ fun size=>fun _=>yw s lo hi size
def sT_tload:Tr:=
(.call 0 [.bool] (.vs 0 174 .nil) 174
(.br (.bvar 174)
(.call 1 [.int .i64,.bool] (.vs 171 3 .nil) 175
(.br (.bvar 176)
(.br (.eq (.var 175) (.lit 0))
(.leaf (.vs 99 9 (.cons (.lit 0) .nil)))
(.br (.eq (.var 175) (.lit 1))
(.leaf (.vs 108 9 (.cons (.lit 0) .nil)))
(.br (.eq (.var 175) (.lit 2))
(.leaf (.vs 117 9 (.cons (.lit 0) .nil)))
(.br (.eq (.var 175) (.lit 3))
(.leaf (.vs 126 9 (.cons (.lit 0) .nil)))
(.br (.eq (.var 175) (.lit 4))
(.leaf (.vs 135 9 (.cons (.lit 0) .nil)))
(.br (.eq (.var 175) (.lit 5))
(.leaf (.vs 144 9 (.cons (.lit 0) .nil)))
(.br (.eq (.var 175) (.lit 6))
(.leaf (.vs 153 9 (.cons (.lit 0) .nil)))
(.br (.eq (.var 175) (.lit 7))
(.leaf (.vs 162 9 (.cons (.lit 0) .nil)))
.panic))))))))
(.call 2 (kSc) (.cons (.var 173) .nil) 177
(.leaf (.cons (.lit 1) (.vs 177 6 (.zs [0,0,0] .nil)))))))
(.leaf (.zs [0,0,0,0,0,0,0,0,0,2] .nil))))
def yO:Spec:={F:=fun k=>match k with | 0=>fT | 1=>iA | 2=>hC | _=>fun _=>[],pre:=fun k=>match k with | _=>fun _=>True}
theorem ah3:aq tys_SdE [rj 0,rb 1,uj 2] [] [] [] 200 Tryz.f82 [.agg kSta,.one (.int .i64),.one (.int .i64),.one (.int .i64)] [.agg kTy,.one (.int .i64)] true (bZ (.int .i64::(.int .i64::(.int .i64::([]))))) sT_tload:=⟨by kernel_rfl,by kernel_rfl,by kernel_rfl⟩
theorem ahz (s:Sta) (hs:Sta.ok s) (lo:Int) (hlo:inK .i64 lo=true) (hi:Int) (hhi:inK .i64 hi=true) (size:Int) (hsize:inK .i64 size=true) (U:Env) (g:ab U 0 (bZ (.int .i64::(.int .i64::(.int .i64::([])))))=(ay s (.z lo::(.z hi::(.z size::([])))))):sT_tload.asks yO (fun U e=>e.D U=dX (ay s (.z lo::(.z hi::(.z size::([])))))) U fun _ _=>False:=by
 simp only[dX,bQ,fl,rdZ,rdB]
 simp only[ay,d_Ty,bZ,v_Ty,ab,varD,thm5,Dt.z.injEq,Dt.l.injEq,b2i_eq_iff,Nat.reduceAdd,and_true] at g
 simp(maxSteps:=10000000) only[sT_tload,yO,ay,d_Ty,kSc,cg,cG,rdZ,fT,iA,hC,qB,qx,yu,dX,yw,Tr.asks,ah,okDs,okD,eqs,E.I,E.B,E.L,E.R,E.D,E.vs,E.gs,E.ins,E.sv,E.tn,E.iv,E.zs,E.zr,E.sg,E.tg,E.rg,E.rgs,E.pv,Nat.reduceSub,dI,dB,dL,varD,ab,S1,Nat.reduceAdd,-eq_self,ao,cS,ae,af,g]
 intro e; (try simp only[e,ao,cS,ae,af,-eq_self]); clear e
 constructor<;>intro c0
 intro e; (try simp only[e,ao,cS,ae,af,-eq_self]); clear e
 constructor<;>intro c1
 constructor<;>intro c2
 ·rw[(bi c0 c1).1,(bi c0 c1).2,eqz c2]; rfl
 constructor<;>intro c3
 ·rw[(bi c0 c1).1,(bi c0 c1).2,eqz c3]; rfl
 constructor<;>intro c4
 ·rw[(bi c0 c1).1,(bi c0 c1).2,eqz c4]; rfl
 constructor<;>intro c5
 ·rw[(bi c0 c1).1,(bi c0 c1).2,eqz c5]; rfl
 constructor<;>intro c6
 ·rw[(bi c0 c1).1,(bi c0 c1).2,eqz c6]; rfl
 constructor<;>intro c7
 ·rw[(bi c0 c1).1,(bi c0 c1).2,eqz c7]; rfl
 constructor<;>intro c8
 ·rw[(bi c0 c1).1,(bi c0 c1).2,eqz c8]; rfl
 constructor<;>intro c9
 ·rw[(bi c0 c1).1,(bi c0 c1).2,eqz c9]; rfl
 ·exact afq c0 rfl c2 c3 c4 c5 c6 c7 c8 c9
 intro e; (try simp only[e,ao,cS,ae,af,-eq_self]); clear e
 ·rw[(o3 c0 c1).1,(o3 c0 c1).2]; rfl
 ·rw[(ym c0).1,(ym c0).2]; rfl
theorem ais {sp:Spec} {key:Nat} (hF:sp.F key=dX) (hP:sp.pre key=fun _=>True:=by rfl):SmOk Tryz.prog sp (qZ key):=
 av (s:=qZ key) hF hP (by kernel_rfl) mm (smc (aeW rfl) (smc (aeT rfl) (smc (aeK rfl) sm0))) Tryz.func82 fn0 ah3 (.inl rfl) (dj fun q0 gq0=>fun x171 gx171 x172 gx172 x173 gx173 hp U g=>ahz q0 gq0 x171 gx171 x172 gx172 x173 gx173 U g)
end Go.Proofs.YtfkhblmeioiciaaGreatDoor
