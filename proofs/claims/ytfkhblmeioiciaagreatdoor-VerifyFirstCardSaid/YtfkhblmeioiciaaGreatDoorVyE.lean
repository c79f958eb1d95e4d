import Derived.Test.YtfkhblmeioiciaaGreatDoorVyB
import Derived.Test.YtfkhblmeioiciaaGreatDoorLiC
import Derived.Test.YtfkhblmeioiciaaGreatDoorProg
import Derived.Laws.Externs
set_option maxRecDepth 100000
set_option maxHeartbeats 8000000
set_option linter.unusedVariables false
set_option linter.unusedSimpArgs false
namespace Go.Proofs.YtfkhblmeioiciaaGreatDoor
open Go.RowKit Go.ChangeShapes Go.WideShapes
def tys_VyE:List (Nat×TI):=[(2,⟨false,1,[.int .i64 (.lit 0)],[],none,some .i64,false,false,none,8,false,none,false,0⟩),
 (3,⟨false,1,[.int .i64 (.lit 0)],[],none,some .i64,false,false,none,8,false,none,false,0⟩),
 (4,⟨false,1,[.bool (.tt false)],[],none,none,false,true,none,1,false,none,false,0⟩),
 (22,⟨false,1,[.nsl],[],none,none,false,false,some 39,24,false,none,false,0⟩),
 (24,⟨true,2,[.int .i64 (.lit 0),.nsl],[(0,3),(1,22)],none,none,false,false,none,32,false,none,false,0⟩),
 (37,⟨false,1,[.int .i8 (.lit 0)],[],none,some .i8,false,false,none,1,false,none,false,0⟩),
 (39,⟨true,9,(zN 9 220090000),[(0,37),(1,37),(2,37),(3,37),(4,4),(5,37),(6,37),(7,3),(8,3)],none,none,true,false,none,24,false,none,false,0⟩),
 (42,⟨false,1,[.int .u64 (.lit 0)],[],none,some .u64,false,false,none,8,false,none,false,0⟩),
 (44,⟨true,4,(zN 4 2211),[(0,42),(1,42),(2,2),(3,2)],none,none,false,false,none,32,false,none,false,0⟩),
 (46,⟨true,2,[.int .u64 (.lit 0),.int .u64 (.lit 0)],[(0,42),(1,42)],none,none,false,false,none,16,false,none,false,0⟩),
 (48,⟨true,6,(zN 6 112211),[(0,44),(4,46)],none,none,true,false,none,48,false,none,false,0⟩),
 (50,⟨true,9,(zN 9 221122110),[(0,37),(1,48),(7,3),(8,3)],none,none,true,false,none,72,false,none,false,0⟩),
 (70,⟨false,1,[.nsl],[],none,none,false,false,some 3,24,false,none,false,0⟩),
 (105,⟨false,1,[.int .u64 (.lit 0)],[],none,some .u64,false,false,none,8,false,none,false,0⟩),
 (167,⟨false,1,[.int .u32 (.lit 0)],[],none,some .u32,false,false,none,4,false,none,false,0⟩)]
theorem acq:(tys_VyE.all fun p=>ckTI Tryz.prog p.1 p.2)=true:=by kernel_rfl
theorem sT:(tys_VyE.all fun p=>!p.2.eqok||((Nat.beq p.1 39&&aY p.2.zero oL)||(Nat.beq p.1 48&&aY p.2.zero z_Sc)||(Nat.beq p.1 50&&aY p.2.zero z_Ty)))=true:=by kernel_rfl
theorem ab5:(tys_VyE.all fun p=>!p.2.keyok)=true:=by kernel_rfl
theorem ml:∀t i,(t,i)∈tys_VyE->TIok Tryz.prog t i:=by
 intro t i h
 refine bC (cz (f:=ckTI Tryz.prog) acq h) (fun he=> ?_) (fun he=> ?_) (fun he=> ?_)
 ·have h1:=thm7.1 sT (t,i) h
  simp only[he,Bool.not_true,Bool.false_or,Bool.or_eq_true,thm0] at h1
  rcases h1 with(h1 | h1) | h1
  ·have hs:=h1.2
   obtain rfl:=thm1 h1.1
   exact fun vs us hv hu=>pC vs us (au hs hv) (au hs hu)
  ·have hs:=h1.2
   obtain rfl:=thm1 h1.1
   exact fun vs us hv hu=>vn vs us (au hs hv) (au hs hu)
  ·have hs:=h1.2
   obtain rfl:=thm1 h1.1
   exact fun vs us hv hu=>vm vs us (au hs hv) (au hs hu)
 ·have h1:=thm7.1 sT (t,i) h
  simp only[he,Bool.not_true,Bool.false_or,Bool.or_eq_true,thm0] at h1
  rcases h1 with(h1 | h1) | h1
  ·have hs:=h1.2
   obtain rfl:=thm1 h1.1
   exact kP
  ·have hs:=h1.2
   obtain rfl:=thm1 h1.1
   exact lz
  ·have hs:=h1.2
   obtain rfl:=thm1 h1.1
   exact ly
 ·have h1:=thm7.1 ab5 (t,i) h
  simp[he] at h1
def wE (key:Nat):Sm:=⟨54,key,[.one (.int .u64)],[.one (.int .i64)],false⟩
def wc (n:Int):List Dt:=[.z (pcnt n)]
def nv:List Dt->List Dt
 | [.z x0]=>wc x0
 | _=>[]
def sT_vcnt:Tr:=
(.leaf (.cons (.bin .and .i64 (.conv .i64 (.bin .add .u64 (.bin .add .u64 (.bin .add .u64 (.bin .and .u64 (.bin .add .u64 (.bin .shr .u64 (.bin .add .u64 (.bin .and .u64 (.bin .shr .u64 (.bin .add .u64 (.bin .and .u64 (.bin .shr .u64 (.var 0) (.lit 1)) (.lit 6148914691236517205)) (.bin .and .u64 (.var 0) (.lit 6148914691236517205))) (.lit 2)) (.lit 3689348814741910323)) (.bin .and .u64 (.bin .add .u64 (.bin .and .u64 (.bin .shr .u64 (.var 0) (.lit 1)) (.lit 6148914691236517205)) (.bin .and .u64 (.var 0) (.lit 6148914691236517205))) (.lit 3689348814741910323))) (.lit 4)) (.bin .add .u64 (.bin .and .u64 (.bin .shr .u64 (.bin .add .u64 (.bin .and .u64 (.bin .shr .u64 (.var 0) (.lit 1)) (.lit 6148914691236517205)) (.bin .and .u64 (.var 0) (.lit 6148914691236517205))) (.lit 2)) (.lit 3689348814741910323)) (.bin .and .u64 (.bin .add .u64 (.bin .and .u64 (.bin .shr .u64 (.var 0) (.lit 1)) (.lit 6148914691236517205)) (.bin .and .u64 (.var 0) (.lit 6148914691236517205))) (.lit 3689348814741910323)))) (.lit 1085102592571150095)) (.bin .shr .u64 (.bin .and .u64 (.bin .add .u64 (.bin .shr .u64 (.bin .add .u64 (.bin .and .u64 (.bin .shr .u64 (.bin .add .u64 (.bin .and .u64 (.bin .shr .u64 (.var 0) (.lit 1)) (.lit 6148914691236517205)) (.bin .and .u64 (.var 0) (.lit 6148914691236517205))) (.lit 2)) (.lit 3689348814741910323)) (.bin .and .u64 (.bin .add .u64 (.bin .and .u64 (.bin .shr .u64 (.var 0) (.lit 1)) (.lit 6148914691236517205)) (.bin .and .u64 (.var 0) (.lit 6148914691236517205))) (.lit 3689348814741910323))) (.lit 4)) (.bin .add .u64 (.bin .and .u64 (.bin .shr .u64 (.bin .add .u64 (.bin .and .u64 (.bin .shr .u64 (.var 0) (.lit 1)) (.lit 6148914691236517205)) (.bin .and .u64 (.var 0) (.lit 6148914691236517205))) (.lit 2)) (.lit 3689348814741910323)) (.bin .and .u64 (.bin .add .u64 (.bin .and .u64 (.bin .shr .u64 (.var 0) (.lit 1)) (.lit 6148914691236517205)) (.bin .and .u64 (.var 0) (.lit 6148914691236517205))) (.lit 3689348814741910323)))) (.lit 1085102592571150095)) (.lit 8))) (.bin .shr .u64 (.bin .add .u64 (.bin .and .u64 (.bin .add .u64 (.bin .shr .u64 (.bin .add .u64 (.bin .and .u64 (.bin .shr .u64 (.bin .add .u64 (.bin .and .u64 (.bin .shr .u64 (.var 0) (.lit 1)) (.lit 6148914691236517205)) (.bin .and .u64 (.var 0) (.lit 6148914691236517205))) (.lit 2)) (.lit 3689348814741910323)) (.bin .and .u64 (.bin .add .u64 (.bin .and .u64 (.bin .shr .u64 (.var 0) (.lit 1)) (.lit 6148914691236517205)) (.bin .and .u64 (.var 0) (.lit 6148914691236517205))) (.lit 3689348814741910323))) (.lit 4)) (.bin .add .u64 (.bin .and .u64 (.bin .shr .u64 (.bin .add .u64 (.bin .and .u64 (.bin .shr .u64 (.var 0) (.lit 1)) (.lit 6148914691236517205)) (.bin .and .u64 (.var 0) (.lit 6148914691236517205))) (.lit 2)) (.lit 3689348814741910323)) (.bin .and .u64 (.bin .add .u64 (.bin .and .u64 (.bin .shr .u64 (.var 0) (.lit 1)) (.lit 6148914691236517205)) (.bin .and .u64 (.var 0) (.lit 6148914691236517205))) (.lit 3689348814741910323)))) (.lit 1085102592571150095)) (.bin .shr .u64 (.bin .and .u64 (.bin .add .u64 (.bin .shr .u64 (.bin .add .u64 (.bin .and .u64 (.bin .shr .u64 (.bin .add .u64 (.bin .and .u64 (.bin .shr .u64 (.var 0) (.lit 1)) (.lit 6148914691236517205)) (.bin .and .u64 (.var 0) (.lit 6148914691236517205))) (.lit 2)) (.lit 3689348814741910323)) (.bin .and .u64 (.bin .add .u64 (.bin .and .u64 (.bin .shr .u64 (.var 0) (.lit 1)) (.lit 6148914691236517205)) (.bin .and .u64 (.var 0) (.lit 6148914691236517205))) (.lit 3689348814741910323))) (.lit 4)) (.bin .add .u64 (.bin .and .u64 (.bin .shr .u64 (.bin .add .u64 (.bin .and .u64 (.bin .shr .u64 (.var 0) (.lit 1)) (.lit 6148914691236517205)) (.bin .and .u64 (.var 0) (.lit 6148914691236517205))) (.lit 2)) (.lit 3689348814741910323)) (.bin .and .u64 (.bin .add .u64 (.bin .and .u64 (.bin .shr .u64 (.var 0) (.lit 1)) (.lit 6148914691236517205)) (.bin .and .u64 (.var 0) (.lit 6148914691236517205))) (.lit 3689348814741910323)))) (.lit 1085102592571150095)) (.lit 8))) (.lit 16))) (.bin .shr .u64 (.bin .add .u64 (.bin .add .u64 (.bin .and .u64 (.bin .add .u64 (.bin .shr .u64 (.bin .add .u64 (.bin .and .u64 (.bin .shr .u64 (.bin .add .u64 (.bin .and .u64 (.bin .shr .u64 (.var 0) (.lit 1)) (.lit 6148914691236517205)) (.bin .and .u64 (.var 0) (.lit 6148914691236517205))) (.lit 2)) (.lit 3689348814741910323)) (.bin .and .u64 (.bin .add .u64 (.bin .and .u64 (.bin .shr .u64 (.var 0) (.lit 1)) (.lit 6148914691236517205)) (.bin .and .u64 (.var 0) (.lit 6148914691236517205))) (.lit 3689348814741910323))) (.lit 4)) (.bin .add .u64 (.bin .and .u64 (.bin .shr .u64 (.bin .add .u64 (.bin .and .u64 (.bin .shr .u64 (.var 0) (.lit 1)) (.lit 6148914691236517205)) (.bin .and .u64 (.var 0) (.lit 6148914691236517205))) (.lit 2)) (.lit 3689348814741910323)) (.bin .and .u64 (.bin .add .u64 (.bin .and .u64 (.bin .shr .u64 (.var 0) (.lit 1)) (.lit 6148914691236517205)) (.bin .and .u64 (.var 0) (.lit 6148914691236517205))) (.lit 3689348814741910323)))) (.lit 1085102592571150095)) (.bin .shr .u64 (.bin .and .u64 (.bin .add .u64 (.bin .shr .u64 (.bin .add .u64 (.bin .and .u64 (.bin .shr .u64 (.bin .add .u64 (.bin .and .u64 (.bin .shr .u64 (.var 0) (.lit 1)) (.lit 6148914691236517205)) (.bin .and .u64 (.var 0) (.lit 6148914691236517205))) (.lit 2)) (.lit 3689348814741910323)) (.bin .and .u64 (.bin .add .u64 (.bin .and .u64 (.bin .shr .u64 (.var 0) (.lit 1)) (.lit 6148914691236517205)) (.bin .and .u64 (.var 0) (.lit 6148914691236517205))) (.lit 3689348814741910323))) (.lit 4)) (.bin .add .u64 (.bin .and .u64 (.bin .shr .u64 (.bin .add .u64 (.bin .and .u64 (.bin .shr .u64 (.var 0) (.lit 1)) (.lit 6148914691236517205)) (.bin .and .u64 (.var 0) (.lit 6148914691236517205))) (.lit 2)) (.lit 3689348814741910323)) (.bin .and .u64 (.bin .add .u64 (.bin .and .u64 (.bin .shr .u64 (.var 0) (.lit 1)) (.lit 6148914691236517205)) (.bin .and .u64 (.var 0) (.lit 6148914691236517205))) (.lit 3689348814741910323)))) (.lit 1085102592571150095)) (.lit 8))) (.bin .shr .u64 (.bin .add .u64 (.bin .and .u64 (.bin .add .u64 (.bin .shr .u64 (.bin .add .u64 (.bin .and .u64 (.bin .shr .u64 (.bin .add .u64 (.bin .and .u64 (.bin .shr .u64 (.var 0) (.lit 1)) (.lit 6148914691236517205)) (.bin .and .u64 (.var 0) (.lit 6148914691236517205))) (.lit 2)) (.lit 3689348814741910323)) (.bin .and .u64 (.bin .add .u64 (.bin .and .u64 (.bin .shr .u64 (.var 0) (.lit 1)) (.lit 6148914691236517205)) (.bin .and .u64 (.var 0) (.lit 6148914691236517205))) (.lit 3689348814741910323))) (.lit 4)) (.bin .add .u64 (.bin .and .u64 (.bin .shr .u64 (.bin .add .u64 (.bin .and .u64 (.bin .shr .u64 (.var 0) (.lit 1)) (.lit 6148914691236517205)) (.bin .and .u64 (.var 0) (.lit 6148914691236517205))) (.lit 2)) (.lit 3689348814741910323)) (.bin .and .u64 (.bin .add .u64 (.bin .and .u64 (.bin .shr .u64 (.var 0) (.lit 1)) (.lit 6148914691236517205)) (.bin .and .u64 (.var 0) (.lit 6148914691236517205))) (.lit 3689348814741910323)))) (.lit 1085102592571150095)) (.bin .shr .u64 (.bin .and .u64 (.bin .add .u64 (.bin .shr .u64 (.bin .add .u64 (.bin .and .u64 (.bin .shr .u64 (.bin .add .u64 (.bin .and .u64 (.bin .shr .u64 (.var 0) (.lit 1)) (.lit 6148914691236517205)) (.bin .and .u64 (.var 0) (.lit 6148914691236517205))) (.lit 2)) (.lit 3689348814741910323)) (.bin .and .u64 (.bin .add .u64 (.bin .and .u64 (.bin .shr .u64 (.var 0) (.lit 1)) (.lit 6148914691236517205)) (.bin .and .u64 (.var 0) (.lit 6148914691236517205))) (.lit 3689348814741910323))) (.lit 4)) (.bin .add .u64 (.bin .and .u64 (.bin .shr .u64 (.bin .add .u64 (.bin .and .u64 (.bin .shr .u64 (.var 0) (.lit 1)) (.lit 6148914691236517205)) (.bin .and .u64 (.var 0) (.lit 6148914691236517205))) (.lit 2)) (.lit 3689348814741910323)) (.bin .and .u64 (.bin .add .u64 (.bin .and .u64 (.bin .shr .u64 (.var 0) (.lit 1)) (.lit 6148914691236517205)) (.bin .and .u64 (.var 0) (.lit 6148914691236517205))) (.lit 3689348814741910323)))) (.lit 1085102592571150095)) (.lit 8))) (.lit 16))) (.lit 32)))) (.lit 127)) .nil))
def ad4:Spec:={F:=fun k=>match k with | _=>fun _=>[],pre:=fun k=>match k with | _=>fun _=>True}
theorem alH:aq tys_VyE [] [(107,Tryz.f107,[],[])] [] [] 200 Tryz.f54 [.one (.int .u64)] [.one (.int .i64)] false [.int .u64] sT_vcnt:=⟨by kernel_rfl,by kernel_rfl,by kernel_rfl⟩
def mN:List Dt->Prop
 | [.z x0]=>let f (n:Int):Prop:=1<=n/\n<=8; f x0
 | _=>False
set_option linter.defProp false in
def dt:=And.intro Prog.eta (Ins.eta)
theorem akZ (n:Int) (hn:inK .u64 n=true) (hp:mN [.z n]) (U:Env) (g:ab U 0 [.int .u64]=[.z n]):sT_vcnt.asks ad4 (fun U e=>e.D U=nv [.z n]) U fun _ _=>False:=by
 simp only[mN,b2i_one,ao,dt,ae,af] at hp
 simp only[ab,varD,thm5,Dt.z.injEq,Dt.l.injEq,b2i_eq_iff,Nat.reduceAdd,and_true] at g
 simp only[sT_vcnt,ad4,nv,wc,Tr.asks,ah,okDs,okD,eqs,E.I,E.B,E.L,E.R,E.D,E.vs,E.gs,E.ins,E.sv,E.tn,E.iv,E.zs,E.zr,E.sg,E.tg,E.rg,E.rgs,E.pv,Nat.reduceSub,dI,dB,dL,varD,ab,S1,Nat.reduceAdd,-eq_self,ao,dt,ae,af,g]
 ·(rcases cnt8 hp with rfl | rfl | rfl | rfl | rfl | rfl | rfl | rfl<;>rfl)
theorem amk {sp:Spec} {key:Nat} (hF:sp.F key=nv) (hP:sp.pre key=mN):SmOk Tryz.prog sp (wE key):=
 av (s:=wE key) hF hP (by kernel_rfl) ml (sm0) Tryz.func54 (fnc Tryz.func107 fn0) alH (.inl rfl) (fun x0 gx0 hp U g=>akZ x0 gx0 hp U g)
def aez (key:Nat):Sm:=⟨18,key,[.agg lH,.agg kTy,.one (.int .i64),.one (.int .i64)],[.one .bool],false⟩
def adr (p:Prog) (t:Ty) (off:Int) (size:Int):List Dt:=[.z (b2i (aG p.ctx t off size))]
def ut:List Dt->List Dt
 | [.z x0,.l x1,.z x2,.z x3,.z x4,.z x5,.z x6,.z x7,.z x8,.z x9,.z x10,.z x11,.z x12]=>adr ⟨x0,x1⟩ ⟨x2,x3,x4,x5,x6,x7,x8,x9,x10⟩ x11 x12
 | _=>[]
def sT_vwi:Tr:=
(.br (.eq (.var 2) (.lit 2))
(.br (.lt (.var 12) (.lit 1))
(.leaf (.consb (.tt false) .nil))
(.br (.lt (.lit 8) (.var 12))
(.leaf (.consb (.tt false) .nil))
(.call 0 [.int .i64] (.cons (.conv .u64 (.var 12)) .nil) 13
(.br (.eq (.var 13) (.lit 1))
(.br (.lt (.var 11) (.lit (-1048576)))
(.leaf (.consb (.tt false) .nil))
(.br (.lt (.lit 1048576) (.var 11))
(.leaf (.consb (.tt false) .nil))
(.br (.lt (.var 9) (.lit (-1048576)))
(.leaf (.consb (.tt false) .nil))
(.br (.lt (.lit 1048576) (.var 9))
(.leaf (.consb (.tt false) .nil))
(.br (.lt (.var 10) (.lit (-1048576)))
(.leaf (.consb (.tt false) .nil))
(.br (.lt (.lit 1048576) (.var 10))
(.leaf (.consb (.tt false) .nil))
(.br (.lt (.var 10) (.var 9))
(.leaf (.consb (.tt false) .nil))
(.br (.lt (.bin .add .i64 (.var 9) (.var 11)) (.lit 0))
(.leaf (.consb (.tt false) .nil))
(.leaf (.consb (.not (.lt (.var 0) (.bin .add .i64 (.bin .add .i64 (.var 10) (.var 11)) (.var 12)))) .nil))))))))))
(.leaf (.consb (.tt false) .nil))))))
(.br (.eq (.var 2) (.lit 3))
(.br (.lt (.var 12) (.lit 1))
(.leaf (.consb (.tt false) .nil))
(.br (.lt (.lit 8) (.var 12))
(.leaf (.consb (.tt false) .nil))
(.call 0 [.int .i64] (.cons (.conv .u64 (.var 12)) .nil) 13
(.br (.eq (.var 13) (.lit 1))
(.br (.lt (.var 11) (.lit (-1048576)))
(.leaf (.consb (.tt false) .nil))
(.br (.lt (.lit 1048576) (.var 11))
(.leaf (.consb (.tt false) .nil))
(.br (.lt (.var 9) (.lit (-1048576)))
(.leaf (.consb (.tt false) .nil))
(.br (.lt (.lit 1048576) (.var 9))
(.leaf (.consb (.tt false) .nil))
(.br (.lt (.var 10) (.lit (-1048576)))
(.leaf (.consb (.tt false) .nil))
(.br (.lt (.lit 1048576) (.var 10))
(.leaf (.consb (.tt false) .nil))
(.br (.lt (.var 10) (.var 9))
(.leaf (.consb (.tt false) .nil))
(.br (.lt (.bin .add .i64 (.var 9) (.var 11)) (.lit 0))
(.leaf (.consb (.tt false) .nil))
(.leaf (.consb (.not (.lt (.lit 64) (.bin .add .i64 (.bin .add .i64 (.var 10) (.var 11)) (.var 12)))) .nil))))))))))
(.leaf (.consb (.tt false) .nil))))))
(.leaf (.consb (.tt false) .nil))))
def ajx:Spec:={F:=fun k=>match k with | 0=>nv | _=>fun _=>[],pre:=fun k=>match k with | 0=>mN | _=>fun _=>True}
theorem aom:aq tys_VyE [wE 0] [(53,Tryz.f53,[],[]),(55,Tryz.f55,[],[])] [(999997,[])] [] 200 Tryz.f18 [.agg lH,.agg kTy,.one (.int .i64),.one (.int .i64)] [.one .bool] false (.int .i64::(.list (kN 9 220090000)::(v_Ty (.int .i64::(.int .i64::([])))))) sT_vwi:=⟨by kernel_rfl,by kernel_rfl,by kernel_rfl⟩
def o7:List Dt->Prop
 | [.z x0,.l x1,.z x2,.z x3,.z x4,.z x5,.z x6,.z x7,.z x8,.z x9,.z x10,.z x11,.z x12]=>let f (p:Prog) (t:Ty) (off:Int) (size:Int):Prop:=p.l.length<=maxLen; f ⟨x0,x1⟩ ⟨x2,x3,x4,x5,x6,x7,x8,x9,x10⟩ x11 x12
 | _=>False
theorem an0 (p:Prog) (hp:Prog.ok p) (t:Ty) (ht:Ty.ok t) (off:Int) (hoff:inK .i64 off=true) (size:Int) (hsize:inK .i64 size=true) (hp:o7 (.z p.ctx::(.l p.l::(d_Ty t (.z off::(.z size::([]))))))) (U:Env) (g:ab U 0 (.int .i64::(.list (kN 9 220090000)::(v_Ty (.int .i64::(.int .i64::([]))))))=(.z p.ctx::(.l p.l::(d_Ty t (.z off::(.z size::([]))))))):sT_vwi.asks ajx (fun U e=>e.D U=ut (.z p.ctx::(.l p.l::(d_Ty t (.z off::(.z size::([]))))))) U fun _ _=>False:=by
 simp only[o7,d_Ty,b2i_one,ao,dt,ae,af] at hp
 simp only[d_Ty,v_Ty,ab,varD,thm5,Dt.z.injEq,Dt.l.injEq,b2i_eq_iff,Nat.reduceAdd,and_true] at g
 simp only[sT_vwi,ajx,d_Ty,nv,wc,ut,adr,mN,Tr.asks,ah,okDs,okD,eqs,E.I,E.B,E.L,E.R,E.D,E.vs,E.gs,E.ins,E.sv,E.tn,E.iv,E.zs,E.zr,E.sg,E.tg,E.rg,E.rgs,E.pv,Nat.reduceSub,dI,dB,dL,varD,ab,S1,Nat.reduceAdd,-eq_self,ao,dt,ae,af,g]
 constructor<;>intro c0
 constructor<;>intro c1
 ·(simp_all [aG,tptr,bP,far2,opI,pcnt,aU,bh]<;>first | omega | (rw[aP]; simp; omega))
 constructor<;>intro c2
 ·(simp_all [aG,tptr,bP,far2,opI,pcnt,aU,bh]<;>first | omega | (rw[aP]; simp; omega))
 refine⟨?_,?_⟩
 ·(show 1<=IntKind.u64.wrap size/\IntKind.u64.wrap size<=8; rw[bh]; have:=thm2 c1; have:=thm2 c2; omega)
 intro e; (try simp only[e,ao,dt,ae,af,-eq_self]); clear e
 constructor<;>intro c3
 constructor<;>intro c4
 ·(simp_all [aG,tptr,bP,far2,opI,pcnt,aU,bh]<;>first | omega | (rw[aP]; simp; omega))
 constructor<;>intro c5
 ·(simp_all [aG,tptr,bP,far2,opI,pcnt,aU,bh]<;>first | omega | (rw[aP]; simp; omega))
 constructor<;>intro c6
 ·(simp_all [aG,tptr,bP,far2,opI,pcnt,aU,bh]<;>first | omega | (rw[aP]; simp; omega))
 constructor<;>intro c7
 ·(simp_all [aG,tptr,bP,far2,opI,pcnt,aU,bh]<;>first | omega | (rw[aP]; simp; omega))
 constructor<;>intro c8
 ·(simp_all [aG,tptr,bP,far2,opI,pcnt,aU,bh]<;>first | omega | (rw[aP]; simp; omega))
 constructor<;>intro c9
 ·(simp_all [aG,tptr,bP,far2,opI,pcnt,aU,bh]<;>first | omega | (rw[aP]; simp; omega))
 constructor<;>intro c10
 ·(simp_all [aG,tptr,bP,far2,opI,pcnt,aU,bh]<;>first | omega | (rw[aP]; simp; omega))
 constructor<;>intro c11
 ·(simp_all [aG,tptr,bP,far2,opI,pcnt,aU,bh]<;>first | omega | (rw[aP]; simp; omega))
 ·(simp_all [aG,tptr,bP,far2,opI,pcnt,aU,bh]<;>first | omega | (rw[aP]; simp; omega))
 ·(simp_all [aG,tptr,bP,far2,opI,pcnt,aU,bh]<;>first | omega | (rw[aP]; simp; omega))
 constructor<;>intro c12
 constructor<;>intro c13
 ·(simp_all [aG,tptr,bP,far2,opI,pcnt,aU,bh]<;>first | omega | (rw[aP]; simp; omega))
 constructor<;>intro c14
 ·(simp_all [aG,tptr,bP,far2,opI,pcnt,aU,bh]<;>first | omega | (rw[aP]; simp; omega))
 refine⟨?_,?_⟩
 ·(show 1<=IntKind.u64.wrap size/\IntKind.u64.wrap size<=8; rw[bh]; have:=thm2 c13; have:=thm2 c14; omega)
 intro e; (try simp only[e,ao,dt,ae,af,-eq_self]); clear e
 constructor<;>intro c15
 constructor<;>intro c16
 ·(simp_all [aG,tptr,bP,far2,opI,pcnt,aU,bh]<;>first | omega | (rw[aP]; simp; omega))
 constructor<;>intro c17
 ·(simp_all [aG,tptr,bP,far2,opI,pcnt,aU,bh]<;>first | omega | (rw[aP]; simp; omega))
 constructor<;>intro c18
 ·(simp_all [aG,tptr,bP,far2,opI,pcnt,aU,bh]<;>first | omega | (rw[aP]; simp; omega))
 constructor<;>intro c19
 ·(simp_all [aG,tptr,bP,far2,opI,pcnt,aU,bh]<;>first | omega | (rw[aP]; simp; omega))
 constructor<;>intro c20
 ·(simp_all [aG,tptr,bP,far2,opI,pcnt,aU,bh]<;>first | omega | (rw[aP]; simp; omega))
 constructor<;>intro c21
 ·(simp_all [aG,tptr,bP,far2,opI,pcnt,aU,bh]<;>first | omega | (rw[aP]; simp; omega))
 constructor<;>intro c22
 ·(simp_all [aG,tptr,bP,far2,opI,pcnt,aU,bh]<;>first | omega | (rw[aP]; simp; omega))
 constructor<;>intro c23
 ·(simp_all [aG,tptr,bP,far2,opI,pcnt,aU,bh]<;>first | omega | (rw[aP]; simp; omega))
 ·(simp_all [aG,tptr,bP,far2,opI,pcnt,aU,bh]<;>first | omega | (rw[aP]; simp; omega))
 ·(simp_all [aG,tptr,bP,far2,opI,pcnt,aU,bh]<;>first | omega | (rw[aP]; simp; omega))
 ·(simp_all [aG,tptr,bP,far2,opI,pcnt,aU,bh]<;>first | omega | (rw[aP]; simp; omega))
theorem aoJ {sp:Spec} {key:Nat} (hF:sp.F key=ut) (hP:sp.pre key=o7):SmOk Tryz.prog sp (aez key):=
 av (s:=aez key) hF hP (by kernel_rfl) ml (smc (amk rfl rfl) sm0) Tryz.func18 (fnc Tryz.func53 (fnc Tryz.func55 fn0)) aom (.inr (.inl ⟨(fun xs h L hL=>by unfold o7 at h; split at h<;>first | exact h.elim | (simp at hL; subst hL; exact h)),rfl⟩)) (fun x0 gx0 x1 gx1=>bj fun q1 gq1=>fun x11 gx11 x12 gx12 hp U g=>an0 ⟨x0,x1⟩ ⟨gx0,gx1⟩ q1 gq1 x11 gx11 x12 gx12 hp U g)
def wI (key:Nat):Sm:=⟨80,key,[.ptr lH,.one (.el (kN 9 220090000) 39),.agg kTy],[.one (.int .i64),.one (.int .i64),.one .bool],true⟩
def ady (p:Prog) (x:List (List Int)) (t:Ty):List Dt:=[.z (opI .add .i64 t.lo (aa x 0).off),.z (opI .add .i64 t.hi (aa x 0).off),.z (b2i (aG p.ctx t (aa x 0).off (aa x 0).sz))]
def iy:List Dt->List Dt
 | [.z x0,.l x1,.l x2,.z x3,.z x4,.z x5,.z x6,.z x7,.z x8,.z x9,.z x10,.z x11]=>ady ⟨x0,x1⟩ x2 ⟨x3,x4,x5,x6,x7,x8,x9,x10,x11⟩
 | _=>[]
def sT_vacc:Tr:=
(.br (.lt (.lit 0) (.len (.lvar 2)))
(.call 0 [.bool] (.cons (.var 0) (.consl (.lvar 1) (.vs 3 9 (.cons (.get (.lvar 2) (.lit 0) 7) (.cons (.conv .i64 (.get (.lvar 2) (.lit 0) 3)) .nil))))) 12
(.leaf (.cons (.bin .add .i64 (.var 10) (.get (.lvar 2) (.lit 0) 7)) (.cons (.bin .add .i64 (.var 11) (.get (.lvar 2) (.lit 0) 7)) (.consb (.bvar 12) .nil)))))
(.stuck 54))
def ad9:Spec:={F:=fun k=>match k with | 0=>ut | _=>fun _=>[],pre:=fun k=>match k with | 0=>o7 | _=>fun _=>True}
theorem alM:aq tys_VyE [aez 0] [] [] [] 200 Tryz.f80 [.ptr lH,.one (.el (kN 9 220090000) 39),.agg kTy] [.one (.int .i64),.one (.int .i64),.one .bool] true (.int .i64::(.list (kN 9 220090000)::(.list (kN 9 220090000)::(v_Ty ([]))))) sT_vacc:=⟨by kernel_rfl,by kernel_rfl,by kernel_rfl⟩
def mQ:List Dt->Prop
 | [.z x0,.l x1,.l x2,.z x3,.z x4,.z x5,.z x6,.z x7,.z x8,.z x9,.z x10,.z x11]=>let f (p:Prog) (x:List (List Int)) (t:Ty):Prop:=x.length=1/\p.l.length<=maxLen; f ⟨x0,x1⟩ x2 ⟨x3,x4,x5,x6,x7,x8,x9,x10,x11⟩
 | _=>False
theorem ak4 (p:Prog) (hp:Prog.ok p) (x:List (List Int)) (hx:RowsIn (kN 9 220090000) x) (t:Ty) (ht:Ty.ok t) (hp:mQ (.z p.ctx::(.l p.l::(.l x::(d_Ty t ([])))))) (U:Env) (g:ab U 0 (.int .i64::(.list (kN 9 220090000)::(.list (kN 9 220090000)::(v_Ty ([])))))=(.z p.ctx::(.l p.l::(.l x::(d_Ty t ([])))))):sT_vacc.asks ad9 (fun U e=>e.D U=iy (.z p.ctx::(.l p.l::(.l x::(d_Ty t ([])))))) U fun _ _=>False:=by
 simp only[mQ,d_Ty,b2i_one,ao,dt,ae,af] at hp
 simp only[d_Ty,v_Ty,ab,varD,thm5,Dt.z.injEq,Dt.l.injEq,b2i_eq_iff,Nat.reduceAdd,and_true] at g
 simp only[sT_vacc,ad9,d_Ty,ut,adr,iy,ady,o7,Tr.asks,ah,okDs,okD,eqs,E.I,E.B,E.L,E.R,E.D,E.vs,E.gs,E.ins,E.sv,E.tn,E.iv,E.zs,E.zr,E.sg,E.tg,E.rg,E.rgs,E.pv,Nat.reduceSub,dI,dB,dL,varD,ab,S1,Nat.reduceAdd,-eq_self,ao,dt,ae,af,g]
 constructor<;>intro c0
 refine⟨?_,?_⟩
 ·exact hp.2
 intro e; (try simp only[e,ao,dt,ae,af,-eq_self]); clear e
 ·(rw[apq (apz (fun r hr=>uH (hx.row r hr) (c:=3) (k:=some .i8) rfl) 0)]; rfl)
 ·(rw[hp.1] at c0; simp at c0)
theorem amo {sp:Spec} {key:Nat} (hF:sp.F key=iy) (hP:sp.pre key=mQ):SmOk Tryz.prog sp (wI key):=
 av (s:=wI key) hF hP (by kernel_rfl) ml (smc (aoJ rfl rfl) sm0) Tryz.func80 fn0 alM (.inr (.inl ⟨(fun xs h L hL=>by unfold mQ at h; split at h<;>first | exact h.elim | (simp at hL; rcases hL with rfl | rfl; exact h.2; rw[h.1]; unfold maxLen; omega)),rfl⟩)) (fun x0 gx0 x1 gx1 x2 gx2=>bj fun q3 gq3=>fun hp U g=>ak4 ⟨x0,x1⟩ ⟨gx0,gx1⟩ x2 gx2 q3 gq3 hp U g)
end Go.Proofs.YtfkhblmeioiciaaGreatDoor
