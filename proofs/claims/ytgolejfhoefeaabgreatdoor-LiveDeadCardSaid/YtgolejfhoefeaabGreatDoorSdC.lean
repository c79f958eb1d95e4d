import Derived.Test.YtgolejfhoefeaabGreatDoorAhZ
import Derived.Test.YtgolejfhoefeaabGreatDoorProg
import Derived.Laws.Externs
set_option maxRecDepth 100000
set_option maxHeartbeats 8000000
set_option linter.defProp false
set_option linter.unusedVariables false
set_option linter.unusedSimpArgs false
namespace Go.Proofs.YtgolejfhoefeaabGreatDoor
open Nat renaming reduceAdd->ZE,reduceSub->YI
open Go.Proofs.Tryz renaming prog->ZF
open Go.Proofs.Tryz
open Go.RowKit Go.ChangeShapes Go.WideShapes
def aO{p q q2:Prop}(k:q2)(h:p->q=q2:=by intro e;(try simp only[e,ct,-eq_self]);rfl):p->q:=fun e=>(h e).symm▸k
def yH:List (Nat×TI):=[(2,DA),
 (3,C1),
 (39,hZ),
 (43,hJ),
 (57,lm),
 (59,oQ),
 (61,SE),
 (63,⟨true,9,(zN 9 221122110),[(0,39),(1,61),(7,3),(8,3)],none,none,false,false,none,72,false,none,false,0⟩),
 (64,OI),
 (65,OH),
 (67,SD)]
def fe:∀t i,(t,i)∈yH->TIok ZF t i:=bK Ch Ch (by kernel_rfl)
def c_tjjoin:Cd:=⟨47,[.agg kTy,.agg kTy,.one (.fn 48),.one .bool],[.agg kTy],rd_Ty fun a=>rd_Ty fun b=>rdB fun t _=>d_Ty (eh false t a b) [],T0⟩
def Vy:Tr:=(.u (.cons (.w 0) (.zs [0,0,0,0,0,0] (.cons (.mn (.w 7) (.w 16)) (.cons (.mx (.w 8) (.w 17)) .nil)))))
def wN:Tr:=
(.br (.eq (.w 0) (.p 0))
(.u (.zs [0,0,0,0,0,0,0,0,0] .nil))
(.br (.eq (.w 9) (.p 0))
(.u (.zs [0,0,0,0,0,0,0,0,0] .nil))
(.br (.eq (.w 0) (.w 9))
(.br (.eq (.w 0) (.p 1))
(.call 1 (kSc) (.vs 1 6 (.vs 10 6 .nil)) 19
(.u (.cons (.w 0) (.vs 19 6 (.cons (.p 0) (.cons (.p 0) .nil))))))
(.br (.s 18)
(.br (.lt (.mn (.w 7) (.w 16)) (.w 7))
(.br (.lt (.w 8) (.mx (.w 8) (.w 17)))
(.u (.cons (.w 0) (.zs [0,0,0,0,0,0,-1048576,1048576] .nil)))
(.u (.cons (.w 0) (.zs [0,0,0,0,0,0,-1048576] (.cons (.mx (.w 8) (.w 17)) .nil)))))
(.br (.lt (.w 8) (.mx (.w 8) (.w 17)))
(.u (.cons (.w 0) (.zs [0,0,0,0,0,0] (.cons (.mn (.w 7) (.w 16)) (.cons (.p 1048576) .nil)))))
 Vy))
 Vy))
(.call 0 (kTy) .nil 19
(.u (.vs 19 9 .nil))))))
def alN:c_tjjoin.Ok ZF:=
 A4 wN (v_Ty (v_Ty [.bool])) fe (Aq qP<|Aq ara AR) func47<|bP fun a ha=>bP fun b hb=>fun t hp ρ g=>by
 simp only[Bo,A5,AT,ZE]at g;simp only[wN,Vy,c_tscal,c_vjoin,c_tjjoin,Bo,A5,Am,YI,ZE,-eq_self,ct,g];apply aI<;>intro c0
 .rw[N3 c0];try rfl
 apply aI<;>intro c1
 .rw[N4 c1];try rfl
 apply aI<;>intro c2;apply aI<;>intro c3;refine aO ?_
 .rw[N2 c0 c1 c2 c3];try rfl
 apply aI<;>intro c4;apply aI<;>intro c5;apply aI<;>intro c6
 .rw[FB c0 c1 c2 c3,SB c4 c5,SI c4 c6];try rfl
 .rw[FB c0 c1 c2 c3,SB c4 c5,SJ c6];try rfl
 apply aI<;>intro c7
 .rw[FB c0 c1 c2 c3,SC c5,SI c4 c7];try rfl
 .rw[FB c0 c1 c2 c3,SC c5,SJ c7];try rfl
 .rw[FB c0 c1 c2 c3,asK c4,asQ c4];try rfl
 refine aO ?_
 .rw[VD c0 c1 c2];try rfl
def c_tcjoin:Cd:=⟨46,[.agg kTy,.agg kTy],[.agg kTy],rd_Ty fun a=>rd_Ty fun b _=>d_Ty (cN false a b) [],T0⟩
def wP:Tr:=
(.call 0 (kTy) (.vs 0 18 (.j (.tt false) .nil)) 18
(.u (.vs 18 9 .nil)))
def alQ:c_tcjoin.Ok ZF:=
 A4 wP (v_Ty (v_Ty [])) fe (Aq alN AR) func46<|bP fun a ha=>bP fun b hb hp ρ g=>by
 simp only[Bo,AT,ZE]at g;simp only[wP,c_tjjoin,c_tcjoin,Bo,Am,YI,ZE,-eq_self,ct,g];refine aO ?_
 .rfl
def c_tejoin:Cd:=⟨45,[.agg kSta,.agg kSta,.one (.fn 46)],[.agg kSta,.one (.int .i64)],rd_Sta fun a=>rd_Sta fun b _=>d_Sta (iQ false a b) [.z (Fy a b)],T0⟩
def qi:Tr:=
(.call 0 [.bool] (.vs 0 171 .nil) 342
(.br (.s 342)
(.call 0 [.bool] (.vs 171 171 .nil) 343
(.br (.s 343)
(.call 1 (kTy) (.vs 0 9 (.vs 171 9 .nil)) 344
(.call 1 (kTy) (.vs 9 9 (.vs 180 9 .nil)) 353
(.call 1 (kTy) (.vs 18 9 (.vs 189 9 .nil)) 362
(.call 1 (kTy) (.vs 27 9 (.vs 198 9 .nil)) 371
(.call 1 (kTy) (.vs 36 9 (.vs 207 9 .nil)) 380
(.call 1 (kTy) (.vs 45 9 (.vs 216 9 .nil)) 389
(.call 1 (kTy) (.vs 54 9 (.vs 225 9 .nil)) 398
(.call 1 (kTy) (.vs 63 9 (.vs 234 9 .nil)) 407
(.call 1 (kTy) (.vs 72 9 (.vs 243 9 .nil)) 416
(.call 1 (kTy) (.vs 81 9 (.vs 252 9 .nil)) 425
(.call 1 (kTy) (.vs 90 9 (.vs 261 9 .nil)) 434
(.call 1 (kTy) (.vs 99 9 (.vs 270 9 .nil)) 443
(.call 1 (kTy) (.vs 108 9 (.vs 279 9 .nil)) 452
(.call 1 (kTy) (.vs 117 9 (.vs 288 9 .nil)) 461
(.call 1 (kTy) (.vs 126 9 (.vs 297 9 .nil)) 470
(.call 1 (kTy) (.vs 135 9 (.vs 306 9 .nil)) 479
(.call 1 (kTy) (.vs 144 9 (.vs 315 9 .nil)) 488
(.call 1 (kTy) (.vs 153 9 (.vs 324 9 .nil)) 497
(.call 1 (kTy) (.vs 162 9 (.vs 333 9 .nil)) 506
(.u (.vs 344 171 (.cons (.p 0) .nil))))))))))))))))))))))
(.u (.zs [0,0,0,0,0,0,0,0,0,0,0,0,0,0,0,0,0,0,0,0,0,0,0,0,0,0,0,0,0,0,0,0,0,0,0,0,0,0,0,0,0,0,0,0,0,0,0,0,0,0,0,0,0,0,0,0,0,0,0,0,0,0,0,0,0,0,0,0,0,0,0,0,0,0,0,0,0,0,0,0,0,0,0,0,0,0,0,0,0,0,0,0,0,0,0,0,0,0,0,0,0,0,0,0,0,0,0,0,0,0,0,0,0,0,0,0,0,0,0,0,0,0,0,0,0,0,0,0,0,0,0,0,0,0,0,0,0,0,0,0,0,0,0,0,0,0,0,0,0,0,0,0,0,0,0,0,0,0,0,0,0,0,0,0,0,0,0,0,0,0,0,2] .nil))))
(.u (.zs [0,0,0,0,0,0,0,0,0,0,0,0,0,0,0,0,0,0,0,0,0,0,0,0,0,0,0,0,0,0,0,0,0,0,0,0,0,0,0,0,0,0,0,0,0,0,0,0,0,0,0,0,0,0,0,0,0,0,0,0,0,0,0,0,0,0,0,0,0,0,0,0,0,0,0,0,0,0,0,0,0,0,0,0,0,0,0,0,0,0,0,0,0,0,0,0,0,0,0,0,0,0,0,0,0,0,0,0,0,0,0,0,0,0,0,0,0,0,0,0,0,0,0,0,0,0,0,0,0,0,0,0,0,0,0,0,0,0,0,0,0,0,0,0,0,0,0,0,0,0,0,0,0,0,0,0,0,0,0,0,0,0,0,0,0,0,0,0,0,0,0,2] .nil))))
def ag8:cG yH (FH 0 [c_tmay,c_tcjoin]) [] [] [] 200 f45 c_tejoin.a c_tejoin.r (tp c_tejoin.r) (v_Sta (v_Sta [])) qi:=FJ (by kernel_rfl)
def alP:c_tejoin.Ok ZF:=
 GJ qi (v_Sta (v_Sta [])) fe (Aq UA<|Aq alQ AR) func45 FD ag8<|fE fun a ha=>fE fun b hb hp ρ g=>by
 simp only[c_tejoin,de,iU,rdZ,rdB,rdL];simp only[js,Bo,AT,ZE]at g;simp(maxSteps:=10000000) only[qi,Lv,c_tmay,c_tcjoin,rdZ,rdB,rdL,c_tejoin,js,Bo,Am,YI,ZE,-eq_self,ct,g];refine aO ?_;apply aI<;>intro c0;refine aO ?_;apply aI<;>intro c1;refine aO ?_;refine aO ?_;refine aO ?_;refine aO ?_;refine aO ?_;refine aO ?_;refine aO ?_;refine aO ?_;refine aO ?_;refine aO ?_;refine aO ?_;refine aO ?_;refine aO ?_;refine aO ?_;refine aO ?_;refine aO ?_;refine aO ?_;refine aO ?_;refine aO ?_
 .rw[(oC c0 c1).1,(oC (w:=true) c0 c1).2];rfl
 .rw[(wC (.inr c1)).1,(wC (w:=true) (.inr c1)).2];rfl
 .rw[(wC (.inl c0)).1,(wC (w:=true) (.inl c0)).2];rfl
def c_tsjoin:Cd:=⟨16,[.agg kSta,.agg kSta],[.agg kSta,.one (.int .i64)],rd_Sta fun a=>rd_Sta fun b _=>d_Sta (iQ false a b) [.z (Fy a b)],T0⟩
def wM:Tr:=
(.call 0 (kSta++[.int .i64]) (.vs 0 342 .nil) 342
(.u (.vs 342 172 .nil)))
def alM:c_tsjoin.Ok ZF:=
 A4 wM (v_Sta (v_Sta [])) fe (Aq alP AR) func16<|fE fun a ha=>fE fun b hb hp ρ g=>by
 simp only[c_tsjoin,de,iU,rdZ,rdB,rdL];simp only[js,Bo,AT,ZE]at g;simp(maxSteps:=10000000) only[wM,Lv,c_tejoin,rdZ,rdB,rdL,c_tsjoin,js,Bo,Am,YI,ZE,-eq_self,ct,g];refine aO ?_
 .rfl
def c_tjwid:Cd:=⟨47,[.agg kTy,.agg kTy,.one (.fn 50),.one .bool],[.agg kTy],rd_Ty fun a=>rd_Ty fun b=>rdB fun t _=>d_Ty (eh true t a b) [],T0⟩
def Vx:Tr:=(.u (.cons (.w 0) (.zs [0,0,0,0,0,0] (.cons (.mn (.w 7) (.w 16)) (.cons (.mx (.w 8) (.w 17)) .nil)))))
def abx:Tr:=
(.br (.eq (.w 0) (.p 0))
(.u (.zs [0,0,0,0,0,0,0,0,0] .nil))
(.br (.eq (.w 9) (.p 0))
(.u (.zs [0,0,0,0,0,0,0,0,0] .nil))
(.br (.eq (.w 0) (.w 9))
(.br (.eq (.w 0) (.p 1))
(.call 1 (kSc) (.vs 1 6 (.vs 10 6 .nil)) 19
(.u (.cons (.w 0) (.vs 19 6 (.cons (.p 0) (.cons (.p 0) .nil))))))
(.br (.s 18)
(.br (.lt (.mn (.w 7) (.w 16)) (.w 7))
(.br (.lt (.w 8) (.mx (.w 8) (.w 17)))
(.u (.cons (.w 0) (.zs [0,0,0,0,0,0,-1048576,1048576] .nil)))
(.u (.cons (.w 0) (.zs [0,0,0,0,0,0,-1048576] (.cons (.mx (.w 8) (.w 17)) .nil)))))
(.br (.lt (.w 8) (.mx (.w 8) (.w 17)))
(.u (.cons (.w 0) (.zs [0,0,0,0,0,0] (.cons (.mn (.w 7) (.w 16)) (.cons (.p 1048576) .nil)))))
 Vx))
 Vx))
(.call 0 (kTy) .nil 19
(.u (.vs 19 9 .nil))))))
def ark:c_tjwid.Ok ZF:=
 A4 abx (v_Ty (v_Ty [.bool])) fe (Aq qP<|Aq atQ AR) func47<|bP fun a ha=>bP fun b hb=>fun t hp ρ g=>by
 simp only[Bo,A5,AT,ZE]at g;simp only[abx,Vx,c_tscal,c_vwid,c_tjwid,Bo,A5,Am,YI,ZE,-eq_self,ct,g];apply aI<;>intro c0
 .rw[N3 c0];try rfl
 apply aI<;>intro c1
 .rw[N4 c1];try rfl
 apply aI<;>intro c2;apply aI<;>intro c3;refine aO ?_
 .rw[N2 c0 c1 c2 c3];try rfl
 apply aI<;>intro c4;apply aI<;>intro c5;apply aI<;>intro c6
 .rw[FB c0 c1 c2 c3,SB c4 c5,SI c4 c6];try rfl
 .rw[FB c0 c1 c2 c3,SB c4 c5,SJ c6];try rfl
 apply aI<;>intro c7
 .rw[FB c0 c1 c2 c3,SC c5,SI c4 c7];try rfl
 .rw[FB c0 c1 c2 c3,SC c5,SJ c7];try rfl
 .rw[FB c0 c1 c2 c3,asK c4,asQ c4];try rfl
 refine aO ?_
 .rw[VD c0 c1 c2];try rfl
def c_tcwid:Cd:=⟨49,[.agg kTy,.agg kTy],[.agg kTy],rd_Ty fun a=>rd_Ty fun b _=>d_Ty (cN true a b) [],T0⟩
def aby:Tr:=
(.call 0 (kTy) (.vs 0 18 (.j (.tt true) .nil)) 18
(.u (.vs 18 9 .nil)))
def arm:c_tcwid.Ok ZF:=
 A4 aby (v_Ty (v_Ty [])) fe (Aq ark AR) func49<|bP fun a ha=>bP fun b hb hp ρ g=>by
 simp only[Bo,AT,ZE]at g;simp only[aby,c_tjwid,c_tcwid,Bo,Am,YI,ZE,-eq_self,ct,g];refine aO ?_
 .rfl
def c_tewid:Cd:=⟨45,[.agg kSta,.agg kSta,.one (.fn 49)],[.agg kSta,.one (.int .i64)],rd_Sta fun a=>rd_Sta fun b _=>d_Sta (iQ true a b) [.z (Fy a b)],T0⟩
def uy:Tr:=
(.call 0 [.bool] (.vs 0 171 .nil) 342
(.br (.s 342)
(.call 0 [.bool] (.vs 171 171 .nil) 343
(.br (.s 343)
(.call 1 (kTy) (.vs 0 9 (.vs 171 9 .nil)) 344
(.call 1 (kTy) (.vs 9 9 (.vs 180 9 .nil)) 353
(.call 1 (kTy) (.vs 18 9 (.vs 189 9 .nil)) 362
(.call 1 (kTy) (.vs 27 9 (.vs 198 9 .nil)) 371
(.call 1 (kTy) (.vs 36 9 (.vs 207 9 .nil)) 380
(.call 1 (kTy) (.vs 45 9 (.vs 216 9 .nil)) 389
(.call 1 (kTy) (.vs 54 9 (.vs 225 9 .nil)) 398
(.call 1 (kTy) (.vs 63 9 (.vs 234 9 .nil)) 407
(.call 1 (kTy) (.vs 72 9 (.vs 243 9 .nil)) 416
(.call 1 (kTy) (.vs 81 9 (.vs 252 9 .nil)) 425
(.call 1 (kTy) (.vs 90 9 (.vs 261 9 .nil)) 434
(.call 1 (kTy) (.vs 99 9 (.vs 270 9 .nil)) 443
(.call 1 (kTy) (.vs 108 9 (.vs 279 9 .nil)) 452
(.call 1 (kTy) (.vs 117 9 (.vs 288 9 .nil)) 461
(.call 1 (kTy) (.vs 126 9 (.vs 297 9 .nil)) 470
(.call 1 (kTy) (.vs 135 9 (.vs 306 9 .nil)) 479
(.call 1 (kTy) (.vs 144 9 (.vs 315 9 .nil)) 488
(.call 1 (kTy) (.vs 153 9 (.vs 324 9 .nil)) 497
(.call 1 (kTy) (.vs 162 9 (.vs 333 9 .nil)) 506
(.u (.vs 344 171 (.cons (.p 0) .nil))))))))))))))))))))))
(.u (.zs [0,0,0,0,0,0,0,0,0,0,0,0,0,0,0,0,0,0,0,0,0,0,0,0,0,0,0,0,0,0,0,0,0,0,0,0,0,0,0,0,0,0,0,0,0,0,0,0,0,0,0,0,0,0,0,0,0,0,0,0,0,0,0,0,0,0,0,0,0,0,0,0,0,0,0,0,0,0,0,0,0,0,0,0,0,0,0,0,0,0,0,0,0,0,0,0,0,0,0,0,0,0,0,0,0,0,0,0,0,0,0,0,0,0,0,0,0,0,0,0,0,0,0,0,0,0,0,0,0,0,0,0,0,0,0,0,0,0,0,0,0,0,0,0,0,0,0,0,0,0,0,0,0,0,0,0,0,0,0,0,0,0,0,0,0,0,0,0,0,0,0,2] .nil))))
(.u (.zs [0,0,0,0,0,0,0,0,0,0,0,0,0,0,0,0,0,0,0,0,0,0,0,0,0,0,0,0,0,0,0,0,0,0,0,0,0,0,0,0,0,0,0,0,0,0,0,0,0,0,0,0,0,0,0,0,0,0,0,0,0,0,0,0,0,0,0,0,0,0,0,0,0,0,0,0,0,0,0,0,0,0,0,0,0,0,0,0,0,0,0,0,0,0,0,0,0,0,0,0,0,0,0,0,0,0,0,0,0,0,0,0,0,0,0,0,0,0,0,0,0,0,0,0,0,0,0,0,0,0,0,0,0,0,0,0,0,0,0,0,0,0,0,0,0,0,0,0,0,0,0,0,0,0,0,0,0,0,0,0,0,0,0,0,0,0,0,0,0,0,0,2] .nil))))
def ak5:cG yH (FH 0 [c_tmay,c_tcwid]) [] [] [] 200 f45 c_tewid.a c_tewid.r (tp c_tewid.r) (v_Sta (v_Sta [])) uy:=FJ (by kernel_rfl)
def arl:c_tewid.Ok ZF:=
 GJ uy (v_Sta (v_Sta [])) fe (Aq UA<|Aq arm AR) func45 FD ak5<|fE fun a ha=>fE fun b hb hp ρ g=>by
 simp only[c_tewid,de,iU,rdZ,rdB,rdL];simp only[js,Bo,AT,ZE]at g;simp(maxSteps:=10000000) only[uy,Lv,c_tmay,c_tcwid,rdZ,rdB,rdL,c_tewid,js,Bo,Am,YI,ZE,-eq_self,ct,g];refine aO ?_;apply aI<;>intro c0;refine aO ?_;apply aI<;>intro c1;refine aO ?_;refine aO ?_;refine aO ?_;refine aO ?_;refine aO ?_;refine aO ?_;refine aO ?_;refine aO ?_;refine aO ?_;refine aO ?_;refine aO ?_;refine aO ?_;refine aO ?_;refine aO ?_;refine aO ?_;refine aO ?_;refine aO ?_;refine aO ?_;refine aO ?_
 .rw[(oC c0 c1).1,(oC (w:=true) c0 c1).2];rfl
 .rw[(wC (.inr c1)).1,(wC (w:=true) (.inr c1)).2];rfl
 .rw[(wC (.inl c0)).1,(wC (w:=true) (.inl c0)).2];rfl
def c_tswid:Cd:=⟨17,[.agg kSta,.agg kSta],[.agg kSta,.one (.int .i64)],rd_Sta fun a=>rd_Sta fun b _=>d_Sta (iQ true a b) [.z (Fy a b)],T0⟩
def abu:Tr:=
(.call 0 (kSta++[.int .i64]) (.vs 0 342 .nil) 342
(.u (.vs 342 172 .nil)))
def arh:c_tswid.Ok ZF:=
 A4 abu (v_Sta (v_Sta [])) fe (Aq arl AR) func17<|fE fun a ha=>fE fun b hb hp ρ g=>by
 simp only[c_tswid,de,iU,rdZ,rdB,rdL];simp only[js,Bo,AT,ZE]at g;simp(maxSteps:=10000000) only[abu,Lv,c_tewid,rdZ,rdB,rdL,c_tswid,js,Bo,Am,YI,ZE,-eq_self,ct,g];refine aO ?_
 .rfl
end Go.Proofs.YtgolejfhoefeaabGreatDoor
