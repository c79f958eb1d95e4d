import Derived.Test.YtgolejfhoefeaaaGreatDoorAgZ
import Derived.Test.YtgolejfhoefeaaaGreatDoorProg
import Derived.Laws.Externs
set_option maxRecDepth 100000
set_option maxHeartbeats 8000000
set_option linter.defProp false
set_option linter.unusedVariables false
set_option linter.unusedSimpArgs false
namespace Go.Proofs.YtgolejfhoefeaaaGreatDoor
open Bool renaming true->ZB,false->ZC
open Option renaming none->ZE
open Go.IntKind renaming wrap->ZG
open List renaming replicate->ZM
open Go.RowKit Go.ChangeShapes Go.WideShapes
def aei:List (Nat×TI):=[(2,CB),
 (3,CU),
 (4,EH),
 (22,vd),
 (24,vb),
 (29,VP),
 (30,Ue),
 (32,VT),
 (33,Tf),
 (38,fT),
 (39,eX),
 (46,gZ),
 (48,jl),
 (50,eM),
 (52,qS),
 (53,qR),
 (54,qQ),
 (56,zY),
 (66,qP),
 (70,⟨ZC,1,[.np],[],ZE,ZE,ZC,ZC,ZE,8,ZC,ZE,ZC,1⟩),
 (71,⟨ZB,64,[.np,.np,.np,.np,.np,.np,.np,.np,.np,.np,.np,.np,.np,.np,.np,.np,.np,.np,.np,.np,.np,.np,.np,.np,.np,.np,.np,.np,.np,.np,.np,.np,.np,.np,.np,.np,.np,.np,.np,.np,.np,.np,.np,.np,.np,.np,.np,.np,.np,.np,.np,.np,.np,.np,.np,.np,.np,.np,.np,.np,.np,.np,.np,.np],[],some (64,70),ZE,ZC,ZC,ZE,512,ZC,ZE,ZC,0⟩),
 (72,⟨ZB,64,(zN 64 2222222222222222222222222222222222222222222222222222222222222222),[],some (64,3),ZE,ZC,ZC,ZE,512,ZC,ZE,ZC,0⟩),
 (74,⟨ZB,1,[.int .u64 (.p 0)],[],some (1,39),ZE,ZC,ZC,ZE,8,ZC,ZE,ZC,0⟩),
 (82,⟨ZB,172,(zN 172 2211221102211221102211221102211221102211221102211221102211221102211221102211221102211221102211221102211221102211221102211221102211221102211221102211221102211221102211221102),[(0,3),(1,56)],ZE,ZE,ZC,ZC,ZE,1376,ZC,ZE,ZC,0⟩),
 (96,Vf),
 (102,⟨ZC,1,[.np],[],ZE,ZE,ZC,ZC,ZE,8,ZC,ZE,ZC,1⟩),
 (114,⟨ZC,1,[.nsl],[],ZE,ZE,ZC,ZC,some 52,24,ZC,ZE,ZC,0⟩),
 (116,⟨ZC,1,[.nf],[],ZE,ZE,ZC,ZC,ZE,8,ZB,ZE,ZC,0⟩)]
def ad9:∀t i,(t,i)∈aei->TIok Tryz.prog t i:=bi (DX (z:=Ei) ⟨ra,lh⟩<|DX (z:=Dr) ⟨qZ,lg⟩<|DX (z:=Ql) ⟨am9,aib⟩<|DX (z:=lQ) ⟨lj,ig⟩ B1) B1 (by kernel_rfl)
def tH(key:Nat):Sm:=⟨6,key,[.agg kProg],[.agg [.sl [ZE] 4,.sl EE 56],.one (.int .i64),.one (.int .i64)],ZB⟩
def ao8(p:Prog):List Dt:=[.l (AC p).1,.l (AC p).2.1,.z ((AC p).2.2.1),.z ((AC p).2.2.2)]
def tI:List Dt->List Dt
 |[.z x0,.l x1]=>ao8 ⟨x0,x1⟩
 |_=>[]
def yo:Tr:=
(.call 0 [.int .i64,.int .i64] (.cons (.w 0) (.N (.g 1) .nil)) 2
(.br (.eq (.w 3) (.p 0))
(.call 1 (kSta) .nil 4
(.loop 0 175 [.int .i64,.int .i64,.int .u64,.list NB,.list [some .i64]] (.zs [0,0,1] (.N (.lput (.lrep (.p 64) (.j (.tt ZC) (.zr 171 .nil))) (.p 0) (.j (.tt ZB) (.vs 4 171 .nil))) (.N (.lrep (.p 64) (.cons (.p 0) .nil)) .nil)))
(.br (.eq (.w 177) (.p 0))
(.loop 1 180 [.int .i64,.list [ZE],.list EE,.list NB] (.cons (.p 0) (.N .ln (.N .ln (.N (.g 178) .nil))))
(.br (.lt (.w 180) (.len (.g 1)))
(.br (.lt (.w 180) (.p 0))
.panic
(.br (.lt (.w 180) (.p 64))
(.br (.lt (.w 180) (.len (.g 183)))
(.br (.getb (.g 183) (.w 180) 0)
(.br (.lt (.len (.g 181)) (.p 1073741824))
(.br (.lt (.len (.g 182)) (.p 1073741824))
(.next 1 (.cons (.f .add .i64 (.w 180) (.p 1)) (.N (.lq (.g 181) (.j (.tt ZB) .nil)) (.N (.lq (.g 182) (.gs (.g 183) (.w 180) 1 171 .nil)) (.N (.g 183) .nil)))))
.panic)
.panic)
(.br (.lt (.len (.g 181)) (.p 1073741824))
(.br (.lt (.len (.g 182)) (.p 1073741824))
(.next 1 (.cons (.f .add .i64 (.w 180) (.p 1)) (.N (.lq (.g 181) (.j (.tt ZC) .nil)) (.N (.lq (.g 182) (.zr 171 .nil)) (.N (.lput (.g 183) (.w 180) (.j (.tt ZB) (.zr 171 .nil))) .nil)))))
.panic)
.panic))
(.stuck 270))
.panic))
(.u (.N (.g 181) (.N (.g 182) (.cons (.p 0) (.cons (.p 0) .nil)))))))
(.br (.eq (.w 176) (.p 2000))
(.u (.N .ln (.N .ln (.cons (.w 175) (.cons (.p 112) .nil)))))
(.call 2 [.int .i64] (.cons (.w 177) .nil) 180
(.br (.lt (.w 180) (.p 0))
.panic
(.br (.lt (.w 180) (.p 64))
(.br (.lt (.w 180) (.len (.g 178)))
(.br (.getb (.g 178) (.w 180) 0)
(.br (.lt (.w 180) (.len (.g 1)))
(.call 3 [.int .i64] (.ins (.g 1) (.w 180) .nil) 181
(.loop 1 182 [.int .i64] (.cons (.w 181) .nil)
(.br (.lt (.p 0) (.w 182))
(.call 4 [.int .i64] (.cons (.F .u64 (.w 182)) .nil) 183
(.br (.lt (.w 183) (.p 0))
.panic
(.br (.lt (.w 183) (.p 11))
(.br (.eq (.nth (.w 183) (.sg (.g 178) (.w 180) 1 11)) (.p 0))
(.u (.N .ln (.N .ln (.cons (.w 180) (.cons (.p 110) .nil)))))
(.next 1 (.cons (.f .and .i64 (.w 182) (.f .sub .i64 (.w 182) (.p 1))) .nil)))
.panic)))
(.br (.lt (.get (.g 1) (.w 180) 6) (.p 0))
.panic
(.br (.lt (.get (.g 1) (.w 180) 6) (.p 11))
(.cut 2 183 [.int .i8,.int .u64,.int .u64,.int .i64,.int .i64,.int .u64,.int .u64,.int .i64,.int .i64]
(.br (.getb (.g 1) (.w 180) 4)
(.next 2 (.tg (.get (.g 1) (.w 180) 6) (.g 178) (.w 180) 1 9 .nil))
(.call 6 (kSc) (.cons (.F .u64 (.get (.g 1) (.w 180) 8)) .nil) 183
(.call 15 (kTy) (.vs 183 6 .nil) 189
(.next 2 (.vs 189 9 .nil)))))
(.call 5 [.int .i64,.bool] (.cons (.w 180) (.ins (.g 1) (.w 180) .nil)) 192
(.cut 3 194 [.bool]
(.br (.eq (.get (.g 1) (.w 180) 0) (.p 4))
(.next 3 (.j (.tt ZC) .nil))
(.next 3 (.j (.not (.eq (.get (.g 1) (.w 180) 0) (.p 6))) .nil)))
(.cut 4 195 [.int .i8,.int .u64,.int .u64,.int .i64,.int .i64,.int .u64,.int .u64,.int .i64,.int .i64,.int .i8,.int .u64,.int .u64,.int .i64,.int .i64,.int .u64,.int .u64,.int .i64,.int .i64,.int .i8,.int .u64,.int .u64,.int .i64,.int .i64,.int .u64,.int .u64,.int .i64,.int .i64,.int .i8,.int .u64,.int .u64,.int .i64,.int .i64,.int .u64,.int .u64,.int .i64,.int .i64,.int .i8,.int .u64,.int .u64,.int .i64,.int .i64,.int .u64,.int .u64,.int .i64,.int .i64,.int .i8,.int .u64,.int .u64,.int .i64,.int .i64,.int .u64,.int .u64,.int .i64,.int .i64,.int .i8,.int .u64,.int .u64,.int .i64,.int .i64,.int .u64,.int .u64,.int .i64,.int .i64,.int .i8,.int .u64,.int .u64,.int .i64,.int .i64,.int .u64,.int .u64,.int .i64,.int .i64,.int .i8,.int .u64,.int .u64,.int .i64,.int .i64,.int .u64,.int .u64,.int .i64,.int .i64,.int .i8,.int .u64,.int .u64,.int .i64,.int .i64,.int .u64,.int .u64,.int .i64,.int .i64,.int .i8,.int .u64,.int .u64,.int .i64,.int .i64,.int .u64,.int .u64,.int .i64,.int .i64,.int .i8,.int .u64,.int .u64,.int .i64,.int .i64,.int .u64,.int .u64,.int .i64,.int .i64,.int .i8,.int .u64,.int .u64,.int .i64,.int .i64,.int .u64,.int .u64,.int .i64,.int .i64,.int .i8,.int .u64,.int .u64,.int .i64,.int .i64,.int .u64,.int .u64,.int .i64,.int .i64,.int .i8,.int .u64,.int .u64,.int .i64,.int .i64,.int .u64,.int .u64,.int .i64,.int .i64,.int .i8,.int .u64,.int .u64,.int .i64,.int .i64,.int .u64,.int .u64,.int .i64,.int .i64,.int .i8,.int .u64,.int .u64,.int .i64,.int .i64,.int .u64,.int .u64,.int .i64,.int .i64,.int .i8,.int .u64,.int .u64,.int .i64,.int .i64,.int .u64,.int .u64,.int .i64,.int .i64,.int .i8,.int .u64,.int .u64,.int .i64,.int .i64,.int .u64,.int .u64,.int .i64,.int .i64]
(.br (.eq (.get (.g 1) (.w 180) 0) (.p 0))
(.br (.lt (.get (.g 1) (.w 180) 5) (.p 0))
.panic
(.br (.lt (.get (.g 1) (.w 180) 5) (.p 11))
(.call 8 (kTy) (.N (.lq .ln (.ins (.g 1) (.w 180) .nil)) (.tg (.get (.g 1) (.w 180) 5) (.g 178) (.w 180) 1 9 (.vs 183 9 .nil))) 195
(.next 4 (.rg (.get (.g 1) (.w 180) 5) (.vs 195 9 .nil) (.gs (.g 178) (.w 180) 1 99 .nil) (.gs (.g 178) (.w 180) 100 72 .nil))))
.panic))
(.br (.eq (.get (.g 1) (.w 180) 0) (.p 1))
(.call 9 [.int .i64,.int .i64,.bool] (.cons (.w 0) (.N (.g 1) (.N (.lq .ln (.ins (.g 1) (.w 180) .nil)) (.tg (.get (.g 1) (.w 180) 6) (.g 178) (.w 180) 1 9 .nil)))) 195
(.br (.s 197)
(.call 10 (kSc) (.cons (.F .i64 (.get (.g 1) (.w 180) 3)) .nil) 198
(.call 15 (kTy) (.vs 198 6 .nil) 204
(.br (.lt (.get (.g 1) (.w 180) 5) (.p 0))
.panic
(.br (.lt (.get (.g 1) (.w 180) 5) (.p 11))
(.br (.eq (.nth (.get (.g 1) (.w 180) 6) (.sg (.g 178) (.w 180) 1 11)) (.p 3))
(.call 12 (kTy++[.int .i64]) (.rg (.get (.g 1) (.w 180) 5) (.vs 204 9 .nil) (.gs (.g 178) (.w 180) 1 99 .nil) (.gs (.g 178) (.w 180) 100 72 (.vs 195 2 (.cons (.F .i64 (.get (.g 1) (.w 180) 3)) .nil)))) 213
(.br (.eq (.w 222) (.p 0))
(.next 4 (.rg (.get (.g 1) (.w 180) 5) (.vs 213 9 .nil) (.rg (.get (.g 1) (.w 180) 5) (.vs 204 9 .nil) (.gs (.g 178) (.w 180) 1 99 .nil) .nil) (.gs (.g 178) (.w 180) 100 72 .nil)))
(.u (.N .ln (.N .ln (.cons (.w 180) (.cons (.w 222) .nil)))))))
(.next 4 (.rg (.get (.g 1) (.w 180) 5) (.vs 204 9 .nil) (.gs (.g 178) (.w 180) 1 99 .nil) (.gs (.g 178) (.w 180) 100 72 .nil))))
.panic))))
(.u (.N .ln (.N .ln (.cons (.w 180) (.cons (.p 111) .nil)))))))
(.br (.eq (.get (.g 1) (.w 180) 0) (.p 2))
(.br (.lt (.get (.g 1) (.w 180) 5) (.p 0))
.panic
(.br (.lt (.get (.g 1) (.w 180) 5) (.p 11))
(.call 9 [.int .i64,.int .i64,.bool] (.cons (.w 0) (.N (.g 1) (.N (.lq .ln (.ins (.g 1) (.w 180) .nil)) (.tg (.get (.g 1) (.w 180) 5) (.g 178) (.w 180) 1 9 .nil)))) 195
(.br (.s 197)
(.br (.eq (.nth (.get (.g 1) (.w 180) 5) (.sg (.g 178) (.w 180) 1 11)) (.p 3))
(.call 13 (kSta++[.int .i64]) (.gs (.g 178) (.w 180) 1 171 (.vs 195 2 (.cons (.F .i64 (.get (.g 1) (.w 180) 3)) (.tg (.get (.g 1) (.w 180) 6) (.g 178) (.w 180) 1 9 .nil)))) 198
(.br (.eq (.w 369) (.p 0))
(.next 4 (.vs 198 171 .nil))
(.u (.N .ln (.N .ln (.cons (.w 180) (.cons (.w 369) .nil)))))))
(.next 4 (.gs (.g 178) (.w 180) 1 171 .nil)))
(.u (.N .ln (.N .ln (.cons (.w 180) (.cons (.p 111) .nil)))))))
.panic))
(.br (.eq (.get (.g 1) (.w 180) 0) (.p 5))
(.call 11 (kTy) .nil 195
(.next 4 (.vs 195 9 (.zr 45 (.gs (.g 178) (.w 180) 55 117 .nil)))))
(.next 4 (.gs (.g 178) (.w 180) 1 171 .nil))))))
(.br (.lt (.get (.g 1) (.w 180) 5) (.p 0))
.panic
(.br (.lt (.get (.g 1) (.w 180) 5) (.p 11))
(.cut 5 366 [.bool]
(.br (.eq (.get (.g 1) (.w 180) 0) (.p 3))
(.br (.eq (.nth (.get (.g 1) (.w 180) 5) (.sv 195 11)) (.p 1))
(.next 5 (.j (.eq (.w 183) (.p 1)) .nil))
(.next 5 (.j (.tt ZC) .nil)))
(.next 5 (.j (.tt ZC) .nil)))
(.call 7 [.int .i8,.bool] (.cons (.get (.g 1) (.w 180) 1) .nil) 367
(.cut 6 369 [.int .u64,.list NB,.list [some .i64]]
(.br (.s 194)
(.br (.s 366)
(.br (.s 368)
(.call 14 (kSc++[.bool]) (.cons (.w 367) (.tn (.get (.g 1) (.w 180) 5) 196 6 (.vs 184 6 .nil))) 369
(.br (.s 375)
(.call 15 (kTy) (.vs 369 6 .nil) 376
(Fj (.f .add .i64 (.w 180) (.p 1)) (fun t=>(.rg (.get (.g 1) (.w 180) 5) (.vs 376 9 .nil) (.vs 195 99 .nil) (.vs 294 72 t))) (.f .and .u64 (.w 177) (.f .sub .u64 (.w 177) (.p 1))) (.g 178) (.g 179) 385 (fun w T g=>.next 6 (.cons w (.N T (.N g .nil))))))
(.next 6 (.cons (.f .and .u64 (.w 177) (.f .sub .u64 (.w 177) (.p 1))) (.N (.g 178) (.N (.g 179) .nil))))))
(Fj (.f .add .i64 (.w 180) (.p 1)) (fun t=>(.vs 195 171 t)) (.f .and .u64 (.w 177) (.f .sub .u64 (.w 177) (.p 1))) (.g 178) (.g 179) 369 (fun w T g=>.next 6 (.cons w (.N T (.N g .nil))))))
(Fj (.f .add .i64 (.w 180) (.p 1)) (fun t=>(.vs 195 171 t)) (.f .and .u64 (.w 177) (.f .sub .u64 (.w 177) (.p 1))) (.g 178) (.g 179) 369 (fun w T g=>.next 6 (.cons w (.N T (.N g .nil))))))
(.next 6 (.cons (.f .and .u64 (.w 177) (.f .sub .u64 (.w 177) (.p 1))) (.N (.g 178) (.N (.g 179) .nil)))))
(.br (.s 193)
(.br (.s 366)
(.call 14 (kSc++[.bool]) (.cons (.get (.g 1) (.w 180) 1) (.tn (.get (.g 1) (.w 180) 5) 196 6 (.vs 184 6 .nil))) 372
(.br (.s 378)
(.call 15 (kTy) (.vs 372 6 .nil) 379
(Fj (.w 192) (fun t=>(.rg (.get (.g 1) (.w 180) 5) (.vs 379 9 .nil) (.vs 195 99 .nil) (.vs 294 72 t))) (.w 369) (.g 370) (.g 371) 388 (fun w T g=>.next 0 (.cons (.w 180) (.cons (.f .add .i64 (.w 176) (.p 1)) (.cons w (.N T (.N g .nil))))))))
(.next 0 (.cons (.w 180) (.cons (.f .add .i64 (.w 176) (.p 1)) (.cons (.w 369) (.N (.g 370) (.N (.g 371) .nil))))))))
(Fj (.w 192) (fun t=>(.vs 195 171 t)) (.w 369) (.g 370) (.g 371) 372 (fun w T g=>.next 0 (.cons (.w 180) (.cons (.f .add .i64 (.w 176) (.p 1)) (.cons w (.N T (.N g .nil))))))))
(.next 0 (.cons (.w 180) (.cons (.f .add .i64 (.w 176) (.p 1)) (.cons (.w 369) (.N (.g 370) (.N (.g 371) .nil))))))))))
.panic))))))
.panic)))))
.panic)
.panic)
(.stuck 270))
.panic)))))))
(.u (.N .ln (.N .ln (.vs 2 2 .nil))))))
def sP_vrun:Spec:={F:=fun k=>match k with|0=>c_icheck.F|1=>c_tfirst.F|2=>pN|3=>c_vrd.F|4=>Uq|5=>c_itgt.F|6=>c_vone.F|7=>c_bnot.F|8=>c_valu.F|9=>c_vacc.F|10=>c_vby.F|11=>c_tscal.F|12=>c_tload.F|13=>c_tstore.F|14=>c_vgiv.F|15=>c_vsca.F|16=>c_tsjoin.F|17=>c_tswid.F|_=>fun _=>[],pre:=fun k=>match k with|0=>jN|8=>pJ|9=>pK|_=>fun _=>True,hw:=Jc,hx:=UN,hi:=UK}
def apc:cb aei [c_icheck.m 0,c_tfirst.m 1,yz 2,c_vrd.m 3,aph 4,c_itgt.m 5,c_vone.m 6,c_bnot.m 7,c_valu.m 8,c_vacc.m 9,c_vby.m 10,c_tscal.m 11,c_tload.m 12,c_tstore.m 13,c_vgiv.m 14,c_vsca.m 15,c_tsjoin.m 16,c_tswid.m 17] [(15,Tryz.f15,[(3,[.tmpI 9 .i64]++E1 [(6,2),(36,14)]),(999999,[]),(999998,[])],[(10,[.cels 11 0 (kN 9 221122110)]++E1 [(57,12)]),(12,[.tmpX 13 [ZE] 4]++E1 [(77,12)]),(37,[.cels 9 0 EE]++E1 [(6,2),(14,8),(89,129)]),(39,[.tmpX 23 [ZE] 4]++E1 [(225,15)])]),(41,Tryz.f41,[(999999,[]),(999998,[])],[(3,[.cI 6 0 .u64,.row 3,.row 4]++E1 [(15,10)])]),(42,Tryz.f42,[(999999,[]),(999998,[])],[])] [(11,[.tmpI 10 .i64,.tmpI 12 .i64,.cI 6 0 .u64,.row 3,.row 4]++E1 [(3,2),(13,6),(34,36),(71,45)]),(35,[.tmpI 119 .i64,.cT 7 0 [ZE] 4,.cT 7 1 EE 56,.row 3]++E1 [(20,1),(120,30)]),(999999,[]),(999997,[]),(999995,[.tmpS 71 EE 56]),(999994,[.only [56,82]]),(999993,[.only [72]])] [] 200 Tryz.f6 [.agg kProg] [.agg [.sl [ZE] 4,.sl EE 56],.one (.int .i64),.one (.int .i64)] ZB (v_Prog []) yo:=E0 (by kernel_rfl)
def pI:List Dt->Prop
 |[.z x0,.l x1]=>let f (p:Prog):Prop:=p.l.length<=maxLen;f ⟨x0,x1⟩
 |_=>False
def ank(a c:Sta):c_tsjoin.F (d_Sta a (d_Sta c []))=d_Sta (iJ ZC a c) [.z (Fa a c)]:=by simp only[c_tsjoin];rw[bT,bT]
def aue(a c:Sta):c_tswid.F (d_Sta a (d_Sta c []))=d_Sta (iJ ZB a c) [.z (Fa a c)]:=by simp only[c_tswid];rw[bT,bT]
structure RF(p:Prog)(AW:Int)(r:VR)(k:Nat)(U:Env):Prop where
 l:U.l 1=p.l
 c:U.i 0=p.ctx
 v:U.i 176=AW
 w:U.i 177=r.w
 T:U.l 178=r.T
 g:U.l 179=r.g
 i:U.i 180=(k:Int)
def RF.ag{p:Prog}{AW:Int}{r:VR}{k n:Nat}{U U':Env}(h:RF p AW r k U)(ha:Ag n U U')(hn:181<=n):RF p AW r k U':=⟨(ha 1 Fn).2.2.symm.trans h.l,(ha 0 Fn).1.symm.trans h.c,(ha 176 Fn).1.symm.trans h.v,(ha 177 Fn).1.symm.trans h.w,(ha 178 Fn).2.2.symm.trans h.T,(ha 179 Fn).2.2.symm.trans h.g,(ha 180 Fn).1.symm.trans h.i⟩
def RF.X{p:Prog}{AW:Int}{r:VR}{k:Nat}{U:Env}(h:RF p AW r k U)(c:Nat):(E.get (.g 1) (.w 180) c).I U=gt p.l k c:=by simp only[E.I,E.R,h.l,h.i]
def aoK(cc n:E)(w T g:E)(v:Nat)(k:E->E->E->Tr):Tr:=
 .call 14 (kSc++[.bool]) (.cons cc (.tn (.get (.g 1) (.w 180) 5) 196 6 (.vs 184 6 .nil))) v
  (.br (.s (v+6))
   (.call 15 kTy (.vs v 6 .nil) (v+7)
    (Fj n (fun t=>.rg (.get (.g 1) (.w 180) 5) (.vs (v+7) 9 .nil) (.vs 195 99 .nil) (.vs 294 72 t)) w T g (v+16) k))
   (k w T g))
section
variable {G:Env->E->Prop}{U:Env}{I:Nat->List Dt->Prop}{p:Prog}{AW:Int}{r r1:VR}{k:Nat}{s1:Sta}{b:Ty}{n w T g cc:E}{v:Nat}{m c:Int}{kk:E->E->E->Tr}
def rm(F:RF p AW r k U)(hS:Dv U 195=s1)(hB:C6 U 183=b)(h:VI p r1)(hw:w.I U=r1.w)(hT:T.R U=r1.T)(hg:g.R U=r1.g)(hn:n.I U=m)(hm:0<=m/\m<(p.l.length:Int))(hl:p.l.length<=64)(hc:cc.I U=c)(hk:∀w' T' g':E,w'.I U=((CX s1 (aa p.l k).d (Ao s1 (aa p.l k).d) b ZB m c ZB).foldl AP r1).w->T'.R U=((CX s1 (aa p.l k).d (Ao s1 (aa p.l k).d) b ZB m c ZB).foldl AP r1).T->g'.R U=((CX s1 (aa p.l k).d (Ao s1 (aa p.l k).d) b ZB m c ZB).foldl AP r1).g->(kk w' T' g').asks sP_vrun G U I):(aoK cc n w T g v kk).asks sP_vrun G U I:=by
 have hX:(E.get (.g 1) (.w 180) 5).I U=(aa p.l k).d:=F.X 5;refine az (.z c::d_Sc (Ao s1 (aa p.l k).d).s (d_Sc b.s [])) (by
  show Dt.z (cc.I U)::(E.tn (.get (.g 1) (.w 180) 5) (195+1) 6 (.vs (183+1) 6 .nil)).D U=_;rw[avZ,Ub,hS,hX,hc,auF,hB];rfl) trivial (fun e=> ?_)
 rw[show sP_vrun.F 14=c_vgiv.F from rfl,aug]at e;obtain⟨e1,e2,_⟩:=aqV e;have e3:U.b (v+6)=DI c (Ao s1 (aa p.l k).d).s b.s:=e2.trans (ov _);refine⟨fun c0=> ?_,fun c0=> ?_⟩
 .have Al:DI c (Ao s1 (aa p.l k).d).s b.s=ZB:=e3.symm.trans c0;refine az (d_Sc (Ej c (Ao s1 (aa p.l k).d).s b.s) []) (by rw[Ub,e1];rfl) trivial (fun e=> ?_);rw[show sP_vrun.F 15=c_vsca.F from rfl,ai6]at e;have eT:=xi e;refine wv (s:=BU s1 (aa p.l k).d (DO (Ej c (Ao s1 (aa p.l k).d).s b.s))) aue ank (fun _=>trivial) (fun _=>trivial) h hw hT hg hn hm hl (fun t=> ?_) ?_ ?_
  .rw[av0 (n:=195),hS,hX,eT]
  .rw[avW (n:=195),hS,hX,eT]
  .have hv:CX s1 (aa p.l k).d (Ao s1 (aa p.l k).d) b ZB m c ZB=[(m,BU s1 (aa p.l k).d (DO (Ej c (Ao s1 (aa p.l k).d).s b.s)))]:=by
    unfold CX;rw[if_pos (by rfl),if_pos Al]
   rw[hv]at hk;exact hk
 .have Al:¬DI c (Ao s1 (aa p.l k).d).s b.s=ZB:=by
   rw[<-e3];intro h9;rw[show(E.s (v+6)).B U=U.b (v+6)from rfl,h9]at c0;cases c0
  have hv:CX s1 (aa p.l k).d (Ao s1 (aa p.l k).d) b ZB m c ZB=[]:=by unfold CX;rw[if_pos (by rfl),if_neg Al]
  rw[hv]at hk;exact hk _ _ _ hw hT hg
def lB(hS:Dv U 195=s1)(h:VI p r1)(hw:w.I U=r1.w)(hT:T.R U=r1.T)(hg:g.R U=r1.g)(hn:n.I U=m)(hm:0<=m/\m<(p.l.length:Int))(hl:p.l.length<=64)(hk:∀w' T' g':E,w'.I U=([(m,s1)].foldl AP r1).w->T'.R U=([(m,s1)].foldl AP r1).T->g'.R U=([(m,s1)].foldl AP r1).g->(kk w' T' g').asks sP_vrun G U I):(Fj n (fun t=>.vs 195 171 t) w T g v kk).asks sP_vrun G U I:=
 wv (s:=s1) aue ank (fun _=>trivial) (fun _=>trivial) h hw hT hg hn hm hl (fun t=>by rw[arn,hS]) (by rw[WN,hS]) hk
end
def RI(p:Prog)(ds:List Dt):Prop:=∃(last AW:Int) (r:VR),ds=[.z last,.z AW,.z r.w,.l r.T,.l r.g]/\VI p r/\(0<=AW/\AW<=2000)/\jk p (2000-AW).toNat last r=AC p
def RM(ds:List Dt):Nat:=(2000-dI ds 1).toNat
section
variable {G:Env->E->Prop}{U:Env}{I:Nat->List Dt->Prop}{p:Prog}{AW:Int}{r r1:VR}{k:Nat}{s1:Sta}{b:Ty}{n w T g:E}{v:Nat}{kk:E->E->E->Tr}
def adV(F:RF p AW r k U)(hS:Dv U 195=s1)(hB:C6 U 183=b)(h:VI p r1)(hw:w.I U=r1.w)(hT:T.R U=r1.T)(hg:g.R U=r1.g)(hn:n.I U=Ac .add .i64 (k:Int) 1)(hm:iW (aa p.l k)=ZB->0<=Ac .add .i64 (k:Int) 1/\Ac .add .i64 (k:Int) 1<(p.l.length:Int))(hl:p.l.length<=64)(t4:U.b 194=iW (aa p.l k))(t6:U.b 366=im (aa p.l k) s1 b)(t7:U.i 367=il (aa p.l k).op)(t8:U.b 368=gv (aa p.l k).op)(nx:∀w' T' g':E,w'.I U=((gA k (aa p.l k) s1 b).foldl AP r1).w->T'.R U=((gA k (aa p.l k) s1 b).foldl AP r1).T->g'.R U=((gA k (aa p.l k) s1 b).foldl AP r1).g->(kk w' T' g').asks sP_vrun G U I):(Tr.br (.s 194) (.br (.s 366) (.br (.s 368) (aoK (.w 367) n w T g 369 kk) (Fj n (fun t=>.vs 195 171 t) w T g v kk)) (Fj n (fun t=>.vs 195 171 t) w T g v kk)) (kk w T g)).asks sP_vrun G U I:=by
 refine⟨fun c=> ?_,fun c=> ?_⟩
 .have hf:iW (aa p.l k)=ZB:=t4.symm.trans c;obtain⟨k4,k6⟩:=uO hf;refine⟨fun c6=>⟨fun c8=> ?_,fun c8=> ?_⟩,fun c6=> ?_⟩
  .rw[adU k4 k6 (by rw[show im (aa p.l k) s1 b=ZB from t6.symm.trans c6,show gv (aa p.l k).op=ZB from t8.symm.trans c8];rfl)]at nx;exact rm F hS hB h hw hT hg hn (hm hf) hl t7 nx
  .rw[zK k4 k6 (by rw[show gv (aa p.l k).op=ZC from t8.symm.trans c8,ap])]at nx;exact lB hS h hw hT hg hn (hm hf) hl nx
  .rw[zK k4 k6 (by rw[show im (aa p.l k) s1 b=ZC from t6.symm.trans c6];rfl)]at nx;exact lB hS h hw hT hg hn (hm hf) hl nx
 .rw[ajq (ajv (t4.symm.trans c))]at nx;exact nx _ _ _ hw hT hg
def adT(F:RF p AW r k U)(hS:Dv U 195=s1)(hB:C6 U 183=b)(h:VI p r1)(e1:U.i 369=r1.w)(e2:U.l 370=r1.T)(e3:U.l 371=r1.g)(t1:U.i 192=(AN k (aa p.l k)).1)(t2:U.b 193=(AN k (aa p.l k)).2)(hm:(AN k (aa p.l k)).2=ZB->0<=(AN k (aa p.l k)).1/\(AN k (aa p.l k)).1<(p.l.length:Int))(hl:p.l.length<=64)(t6:U.b 366=im (aa p.l k) s1 b)(nx:∀w' T' g':E,w'.I U=((gY k (aa p.l k) s1 b).foldl AP r1).w->T'.R U=((gY k (aa p.l k) s1 b).foldl AP r1).T->g'.R U=((gY k (aa p.l k) s1 b).foldl AP r1).g->(kk w' T' g').asks sP_vrun G U I):(Tr.br (.s 193) (.br (.s 366) (aoK (.get (.g 1) (.w 180) 1) (.w 192) (.w 369) (.g 370) (.g 371) 372 kk) (Fj (.w 192) (fun t=>.vs 195 171 t) (.w 369) (.g 370) (.g 371) v kk)) (kk (.w 369) (.g 370) (.g 371))).asks sP_vrun G U I:=by
 refine⟨fun c=> ?_,fun c=> ?_⟩
 .have hj:(AN k (aa p.l k)).2=ZB:=t2.symm.trans c;refine⟨fun c2=> ?_,fun c2=> ?_⟩
  .rw[adR hj (t6.symm.trans c2)]at nx;exact rm F hS hB h e1 e2 e3 t1 (hm hj) hl (F.X 1) nx
  .rw[ajo hj (t6.symm.trans c2)]at nx;exact lB hS h e1 e2 e3 t1 (hm hj) hl nx
 .rw[ajp (t2.symm.trans c)]at nx;exact nx _ _ _ e1 e2 e3
end
def ao5(p:Prog)(hp:Prog.ok p)(hp:pI (d_Prog p [])):Cn yo sP_vrun (v_Prog []) (d_Prog p []) tI:=by
 intro U g;have hl:p.l.length<=maxLen:=hp;have g0:U.i 0=p.ctx/\U.l 1=p.l:=by simp only[dE,varsD,varD,Be,Dt.z.injEq,Dt.l.injEq,and_true,Nat.reduceAdd]at g;exact g
 unfold yo;refine az (xs:=[.z p.ctx,.l p.l]) (by simp only[E.D,E.I,E.R,g0.1,g0.2]) hl (fun e=> ?_);have e1:U.i 2=(aV p).1/\U.i 3=(aV p).2:=⟨e.1,e.2.1⟩
 clear e;refine⟨fun c0=> ?_,fun c0=> ?_⟩
 rotate_left
 .have h0:¬(aV p).2=0:=by
   simp only[E.B,E.I,e1.2]at c0;exact Cc c0
  show[Dt.l [],.l [],.z (U.i 2),.z (U.i 3)]=[.l (AC p).1,.l (AC p).2.1,.z (AC p).2.2.1,.z (AC p).2.2.2];unfold AC;rw[e1.1,e1.2,if_neg h0]
 have Al:(aV p).2=0:=by simp only[E.B,E.I,e1.2]at c0;exact Br c0
 obtain⟨⟨q1,q2,q3⟩,q4,q5⟩:=cF hl Al;refine az (xs:=[]) rfl trivial (fun e=> ?_);have eF:Dv U 4=jH:=atK e;clear e;refine⟨RI p,RM,⟨0,0,vini,?_,VI.ini q2,by decide,by unfold AC;rw[if_pos Al];rfl⟩,?_⟩
 .have e2:(E.lput (.lrep (.p 64) (.j (.tt ZC) (.zr 171 .nil))) (.p 0) (.j (.tt ZB) (.vs 4 171 .nil))).R U=vini.T:=by
   simp only[E.R,E.L,WN,eF];rfl
  simp only[E.zs,E.D,e2];rfl
 intro U1 AZ _ Ba;obtain⟨last,AW,r,Bp,hV,hv,Cv⟩:=Ba;simp only[varsD,varD,Be,Dt.z.injEq,Dt.l.injEq,and_true,Nat.reduceAdd]at Bp;obtain⟨d1,d2,d3,d4,d5⟩:=Bp;have gl:U1.l 1=p.l:=(AZ 1 ST).2.2.symm.trans g0.2;have gc:U1.i 0=p.ctx:=(AZ 0 ST).1.symm.trans g0.1;refine⟨fun c1=> ?_,fun c1=> ?_⟩
 ·
  have If:r.w=0:=by simp only[E.B,E.I,d3]at c1;exact Br c1
  rw[iq If]at Cv;refine⟨fun ds=>∃(n:Nat) (T:LL),ds=[.z n,.l ((List.range n).map fun(k:Nat)=>[AE (gt r.T k 0==1)]),.l ((List.range n).map fun(k:Nat)=>if gt r.T k 0=1 then BH (ak r.T k)else ZM 171 0),.l T]/\n<=p.l.length/\T.length=64/\∀k,n<=k->T[k]? =r.T[k]?,fun ds=>(64-dI ds 0).toNat,⟨0,r.T,by simp only[E.D,E.R,E.I,d4];rfl,Nat.zero_le _,hV.T,fun _ _=>rfl⟩,?_⟩;intro U2 Cj _ Gx;obtain⟨n,T,Bp,hn,hT,Jv⟩:=Gx;rw[show varsD U2 180 _=[.z (U2.i 180),.l (U2.l 181),.l (U2.l 182),.l (U2.l 183)]from rfl]at Bp ⊢;simp only[Be,Dt.z.injEq,Dt.l.injEq,and_true]at Bp;obtain⟨f1,f2,f3,f4⟩:=Bp;have gl2:U2.l 1=p.l:=(Cj 1 ST).2.2.symm.trans gl;refine⟨fun c2=> ?_,fun c2=> ?_⟩
  rotate_left
  .have K7:n=p.l.length:=by
    simp only[E.B,E.I,E.R,f1,gl2]at c2;have:=Ab c2;omega
   show[Dt.l (U2.l 181),.l (U2.l 182),.z 0,.z 0]=[.l (AC p).1,.l (AC p).2.1,.z (AC p).2.2.1,.z (AC p).2.2.2];rw[<-Cv,f2,f3,K7];rfl
  have K7:n<p.l.length:=by simp only[E.B,E.I,E.R,f1,gl2]at c2;have:=Ah c2;omega
  have hn64:n<64:=Fn;have hs:=Jv n (Nat.le_refl n);have b1:(E.lt (.len (.g 181)) (.p 1073741824)).B U2=ZB:=by simp only[E.B,E.I,E.R,f2,List.length_map,List.length_range];exact dg Fn
  have b2:(E.lt (.len (.g 182)) (.p 1073741824)).B U2=ZB:=by simp only[E.B,E.I,E.R,f3,List.length_map,List.length_range];exact dg Fn
  have eI:(E.f .add .i64 (.w 180) (.p 1)).I U2=((n+1:Nat):Int):=by simp only[E.I,f1];exact ave hn64
  refine⟨fun c3=> ?_,fun _=>⟨fun _=>⟨fun _=>⟨fun c4=>⟨fun _=>⟨fun _=>aY ?_,fun c=> ?_⟩,fun c=> ?_⟩,fun c4=>⟨fun _=>⟨fun _=>aY ?_,fun c=> ?_⟩,fun c=> ?_⟩⟩,fun c=> ?_⟩,fun c=> ?_⟩⟩
  .simp only[E.B,E.I,f1]at c3;have:=Ah c3;omega
  .have h1:gt r.T n 0=1:=by
    simp only[E.B,E.I,E.R,f1,f4,gQ hs]at c4;exact Br c4
   refine⟨⟨n+1,T,?_,K7,hT,fun k hk=>Jv k Fn⟩,?_⟩
   .simp only[E.D];rw[eI];simp only[E.R,E.L,auc,E.I,E.B,f1,f2,f3,f4,dN hs,List.range_succ,List.map_append,List.map_cons,List.map_nil,h1,if_true,beq_self_eq_true]
   .show(64-(E.f .add .i64 (.w 180) (.p 1)).I U2).toNat<(64-U2.i 180).toNat;rw[eI,f1];omega
  .rw[b2]at c;cases c
  .rw[b1]at c;cases c
  .have h1:¬gt r.T n 0=1:=by
    simp only[E.B,E.I,E.R,f1,f4,gQ hs]at c4;exact Cc c4
   have hb:(gt r.T n 0==1)=ZC:=by simp only[E.B,E.I,E.R,f1,f4,gQ hs]at c4;exact c4
   refine⟨⟨n+1,T.set n (1::ZM 171 0),?_,K7,by rw[List.length_set];exact hT,fun k hk=>by rw[pp Fn];exact Jv k Fn⟩,?_⟩
   .have eT:(E.lput (.g 183) (.w 180) (.j (.tt ZB) (.zr 171 .nil))).R U2=T.set n (1::ZM 171 0):=by
     simp only[E.R,E.I,f1,f4,cS];rfl
    have eS:(E.lq (.g 182) (.zr 171 .nil)).R U2=U2.l 182++[ZM 171 0]:=rfl;simp only[E.D,eI,eT,eS,f3,List.range_succ,List.map_append,List.map_cons,List.map_nil,if_neg h1];simp only[E.R,E.L,E.B,f2,hb]
   .show(64-(E.f .add .i64 (.w 180) (.p 1)).I U2).toNat<(64-U2.i 180).toNat;rw[eI,f1];omega
  .rw[b2]at c;cases c
  .rw[b1]at c;cases c
  .simp only[E.B,E.I,E.R,f1,f4,hT]at c;have:=Ab c;omega
  .simp only[E.B,E.I,f1]at c;have:=Ab c;omega
 have If:r.w≠0:=by simp only[E.B,E.I,d3]at c1;exact Cc c1
 refine⟨fun c2=> ?_,fun c2=> ?_⟩
 .have IH:AW=2000:=by
   simp only[E.B,E.I,d2]at c2;exact Br c2
  show[Dt.l [],.l [],.z (U1.i 175),.z 112]=[.l (AC p).1,.l (AC p).2.1,.z (AC p).2.2.1,.z (AC p).2.2.2];rw[<-Cv,IH,d1,show(2000-2000:Int).toNat=0 from rfl,lw If]
 have IH:AW<2000:=by simp only[E.B,E.I,d2]at c2;have:=Cc c2;omega
 obtain⟨Nf,k,EW,D1,Gq,Wf⟩:=hV.next If;obtain⟨m,hm⟩:∃m,(2000-AW).toNat=m+1:=⟨(2000-AW).toNat-1,by omega⟩
 have SG:m=(2000-(AW+1)).toNat:=Fn;rw[hm]at Cv;have Lq:∀e:Int,(bw p k (ak r.T k))=([],e)->e≠0->AC p=([],[],(k:Int),e):=fun e he h0=>by rw[<-Cv,pk If (by rw[EW,he];exact h0),EW,he]
 refine az [.z r.w] (by simp only[E.D,E.I,d3]) trivial (fun e=> ?_);have F1:RF p AW r k U1:=⟨gl,gc,d2,d3,d4,d5,(show U1.i 180=CO r.w from e.1).trans EW⟩
 clear e;have hx:A3 (aa p.l k)=ZB:=kK hl Al (Int.natCast_nonneg k) Fn;have hd:=cr hx;refine⟨fun c=> ?_,fun _=>⟨fun _=>⟨fun _=>⟨fun _=>⟨fun _=> ?_,fun c=> ?_⟩,fun c=> ?_⟩,fun c=> ?_⟩,fun c=> ?_⟩⟩
 .simp only[E.B,E.I,F1.i]at c;have:=Ah c;omega
 rotate_left
 .simp only[E.B,E.I,E.R,F1.i,F1.l]at c;have:=Ab c;omega
 .simp only[E.B,E.I,E.R,F1.i,F1.T,Wf]at c;cases c
 .simp only[E.B,E.I,E.R,F1.i,F1.T,hV.T]at c;have:=Ab c;omega
 .simp only[E.B,E.I,F1.i]at c;have:=Ab c;omega
 obtain⟨R,hR,hR2⟩:=alV hx;refine az (d_Ins (aa p.l k) []) (by rw[auo];simp only[E.R,E.I,F1.l,F1.i];rfl) trivial (fun e=> ?_);have e181:U1.i 181=(R:Int):=by have e:=e;rw[show sP_vrun.F 3=c_vrd.F from rfl,avX,hR]at e;exact e.1
 clear e;refine⟨fun ds=>∃m:Nat,ds=[.z (m:Int)]/\UInv (ak r.T k) R m,fun ds=>(dI ds 0).toNat,⟨R,by simp only[E.D,E.I,e181],.init hR2⟩,?_⟩;intro U2 Cj _ Gx;obtain⟨n,Bp,hU⟩:=Gx;rw[show varsD U2 182 [.int .i64]=[.z (U2.i 182)]from rfl]at Bp ⊢;simp only[Be,Dt.z.injEq,and_true]at Bp;have F2:=F1.ag Cj ST;refine⟨fun c3=> ?_,fun c3=> ?_⟩
 ·
  have hn:0<n:=by simp only[E.B,E.I,Bp]at c3;have:=Ah c3;omega
  refine az [.z (ZG .u64 n)] (by simp only[E.D,E.I,Bp]) trivial (fun e=> ?_);have Nz:U2.i 183=CO (ZG .u64 n):=e.1;clear e;have hz:=auv hn hU.lt;have cB:(E.eq (.nth (.w 183) (.sg (.g 178) (.w 180) 1 11)) (.p 0)).B U2=((ic (ak r.T k)).getD (CO (ZG .u64 n)).toNat 0==0):=by show(((E.sg (.g 178) (.w 180) 1 11).L U2).getD (U2.i 183).toNat 0==0)=_;rw[show(E.sg (.g 178) (.w 180) 1 11).L U2=ic (ak (U2.l 178) (U2.i 180))from rfl,F2.T,F2.i,Nz]
  refine⟨fun c=> ?_,fun _=>⟨fun _=>⟨fun c4=> ?_,fun c4=> ?_⟩,fun c=> ?_⟩⟩
  .simp only[E.B,E.I,Nz]at c;have:=Ah c;omega
  .rw[cB]at c4;have hb:fx (ak r.T k) R=ZB:=hU.bad hn c4;have EN:bw p k (ak r.T k)=([],110):=by
    unfold bw;rw[hR,cS,if_pos hb]
   show[Dt.l [],.l [],.z (U2.i 180),.z 110]=[.l (AC p).1,.l (AC p).2.1,.z (AC p).2.2.1,.z (AC p).2.2.2];rw[Lq 110 EN ST,F2.i]
  .rw[cB]at c4;obtain⟨m2,e1,e2,e3⟩:=hU.next hn c4;refine aY ⟨⟨m2,?_,e2⟩,?_⟩
   .simp only[E.D,E.I,Bp,e1]
   .show((E.f .and .i64 (.w 182) (.f .sub .i64 (.w 182) (.p 1))).I U2).toNat<(U2.i 182).toNat;simp only[E.I,Bp,e1];omega
  .simp only[E.B,E.I,Nz]at c;have:=Ab c;omega
 have hn:n=0:=by simp only[E.B,E.I,Bp]at c3;have:=Ab c3;omega
 subst hn;have hu:fx (ak r.T k) R=ZC:=hU.good;have X5:∀U,RF p AW r k U->(E.lt (.get (.g 1) (.w 180) 5) (.p 0)).B U=ZC/\(E.lt (.get (.g 1) (.w 180) 5) (.p 11)).B U=ZB:=fun U F=>by have h5:(E.get (.g 1) (.w 180) 5).I U=(aa p.l k).d:=F.X 5;simp only[E.B];rw[h5];exact⟨eY (by show¬(aa p.l k).d<0;omega),dg (by show(aa p.l k).d<11;omega)⟩
 have X6:(E.lt (.get (.g 1) (.w 180) 6) (.p 0)).B U2=ZC/\(E.lt (.get (.g 1) (.w 180) 6) (.p 11)).B U2=ZB:=by have h6:(E.get (.g 1) (.w 180) 6).I U2=(aa p.l k).s:=F2.X 6;simp only[E.B];rw[h6];exact⟨eY (by show¬(aa p.l k).s<0;omega),dg (by show(aa p.l k).s<11;omega)⟩
 refine⟨fun c=>(by rw[X6.1]at c;cases c),fun _=>⟨fun _=> ?_,fun c=>(by rw[X6.2]at c;cases c)⟩⟩;refine⟨fun ds=>ds=d_Ty (cn (aa p.l k) (ak r.T k)) [],⟨fun c=>aY ?_,fun c=> ?_⟩,?_⟩
 .have hb:(aa p.l k).br=ZB:=by
   simp only[E.B,E.R,E.I,F2.l,F2.i]at c;exact c
  rw[QD,show(E.g 178).R U2=r.T from F2.T,show(E.w 180).I U2=(k:Int)from F2.i,show(E.get (.g 1) (.w 180) 6).I U2=(aa p.l k).s from F2.X 6];unfold cn;rw[if_pos hb];rfl
 .have hb:¬(aa p.l k).br=ZB:=by
   simp only[E.B,E.R,E.I,F2.l,F2.i]at c;exact fun h=>by rw[show(gt p.l k 4==1)=ZB from h]at c;cases c
  refine az [.z (ZG .u64 (aa p.l k).imm)] (by
   show[Dt.z (ZG .u64 ((E.get (.g 1) (.w 180) 8).I U2))]=_;rw[F2.X 8];rfl) trivial (fun e=> ?_)
  rw[show sP_vrun.F 6=c_vone.F from rfl,auf]at e;have e1:=(aqV (ks:=[]) e).1;refine az (d_Sc (B8 (ZG .u64 (aa p.l k).imm)) []) (by rw[Ub,e1];rfl) trivial (fun e=>aY ?_);rw[show sP_vrun.F 15=c_vsca.F from rfl,ai6]at e;rw[aum,xi e];unfold cn;rw[if_neg hb];rfl
 intro U3 Bd _ Is;have F3:=F2.ag Bd ST;have hB3:C6 U3 183=cn (aa p.l k) (ak r.T k):=aly (r:=[]) (r':=[]) Is;clear Is;refine az (.z k::d_Ins (aa p.l k) []) (by
  show Dt.z (U3.i 180)::(E.ins (.g 1) (.w 180) .nil).D U3=_;rw[auo,F3.i,show(E.g 1).R U3=p.l from F3.l,show(E.w 180).I U3=(k:Int)from F3.i];rfl) trivial (fun e=> ?_)
 rw[show sP_vrun.F 5=c_itgt.F from rfl,aul]at e;have t1:U3.i 192=(AN k (aa p.l k)).1:=e.1;have t2:U3.b 193=(AN k (aa p.l k)).2:=e.2.1.trans (ov _);clear e
 have Hv:∀s1:Sta,Bz p (aa p.l k) (ak r.T k)=(s1,0)->∀U5,RF p AW r k U5->∀w T g:E,w.I U5=((gY k (aa p.l k) s1 (cn (aa p.l k) (ak r.T k))).foldl AP ((gA k (aa p.l k) s1 (cn (aa p.l k) (ak r.T k))).foldl AP (ji r))).w->T.R U5=((gY k (aa p.l k) s1 (cn (aa p.l k) (ak r.T k))).foldl AP ((gA k (aa p.l k) s1 (cn (aa p.l k) (ak r.T k))).foldl AP (ji r))).T->g.R U5=((gY k (aa p.l k) s1 (cn (aa p.l k) (ak r.T k))).foldl AP ((gA k (aa p.l k) s1 (cn (aa p.l k) (ak r.T k))).foldl AP (ji r))).g->
   RI p ((E.cons (.w 180) (.cons (.f .add .i64 (.w 176) (.p 1)) (.cons w (.N T (.N g .nil))))).D U5)/\RM ((E.cons (.w 180) (.cons (.f .add .i64 (.w 176) (.p 1)) (.cons w (.N T (.N g .nil))))).D U5)<RM (varsD U1 175 [.int .i64,.int .i64,.int .u64,.list [],.list []]):=by
  intro s1 N5 U5 F5 w T g hw hT hg;have hs:bw p k (ak r.T k)=(gA k (aa p.l k) s1 (cn (aa p.l k) (ak r.T k))++gY k (aa p.l k) s1 (cn (aa p.l k) (ak r.T k)),0):=by unfold bw;rw[hR,cS,hu,N5,if_neg (by simp),if_pos rfl]
  have hV3:=VI.puts q3 _ (VI.puts q3 _ Nf (xK hl Al Gq (s:=s1) (b:=cn (aa p.l k) (ak r.T k)))) (adS hl Al Gq (s:=s1) (b:=cn (aa p.l k) (ak r.T k)));have ev:Ac .add .i64 AW 1=AW+1:=by show IntKind.i64.wrap _=_;rw[aP];omega
  refine⟨⟨k,AW+1,_,?_,hV3,⟨by omega,by omega⟩,?_⟩,?_⟩
  .simp only[E.D,E.I,F5.i,F5.v,hw,hT,hg,ev]
  .rw[<-SG,<-Cv,na If (by rw[EW,hs]),EW,hs,List.foldl_append]
  .show(2000-(E.f .add .i64 (.w 176) (.p 1)).I U5).toNat<(2000-U1.i 176).toNat;simp only[E.I,F5.v,d2,ev];omega
 have kx:∀(U:Env),RF p AW r k U->∀z:Int,(E.eq (.get (.g 1) (.w 180) 0) (.p z)).B U=((aa p.l k).k==z):=fun U F z=>by show((E.get (.g 1) (.w 180) 0).I U==z)=_;rw[F.X 0];rfl
 refine⟨fun ds=>ds=[.z (AE (iW (aa p.l k)))],⟨fun c=>aY ?_,fun c=>aY ?_⟩,?_⟩
 .show[Dt.z (AE ZC)]=_;unfold iW;rw[show((aa p.l k).k==4)=ZB from(kx U3 F3 4).symm.trans c];rfl
 .show[Dt.z (AE (!((E.get (.g 1) (.w 180) 0).I U3==6)))]=_;rw[F3.X 0];unfold iW;rw[show((aa p.l k).k==4)=ZC from(kx U3 F3 4).symm.trans c];rfl
 intro U4 ML _ PS;have f4:U4.b 194=iW (aa p.l k):=nN (Dt.z.inj (List.cons.inj PS).1);clear PS;have F4:=F3.ag ML ST;have hB4:C6 U4 183=cn (aa p.l k) (ak r.T k):=(zV ML ST).trans hB3;have EQ:(E.g 178).R U4=r.T:=F4.T;have EX:(E.w 180).I U4=(k:Int):=F4.i;have Gz:(E.g 1).R U4=p.l:=F4.l;have h5:(E.get (.g 1) (.w 180) 5).I U4=(aa p.l k).d:=F4.X 5;have h6:(E.get (.g 1) (.w 180) 6).I U4=(aa p.l k).s:=F4.X 6;have LM:∀(s1:Sta) (e:Int),Bz p (aa p.l k) (ak r.T k)=(s1,e)->e≠0->bw p k (ak r.T k)=([],e):=fun s1 e h h0=>by unfold bw;rw[hR,cS,hu,h,if_neg (by simp),if_neg h0]
 have z3:aN (aa p.l k).sz=ZB->(E.F .i64 (.get (.g 1) (.w 180) 3)).I U4=(aa p.l k).sz:=fun hz=>by show IntKind.i64.wrap ((E.get (.g 1) (.w 180) 3).I U4)=_;rw[F4.X 3];exact aoO hz
 have wz:∀{t:Ty},aD p.ctx t (aa p.l k).off (aa p.l k).sz=ZB->aN (aa p.l k).sz=ZB:=fun {t} h=>by unfold aD at h;rw[ne,ne]at h;exact h.2.1
 refine⟨fun ds=>∃s1,ds=d_Sta s1 []/\Bz p (aa p.l k) (ak r.T k)=(s1,0),?_,?_⟩
 .refine⟨fun c0=> ?_,fun c0=>⟨fun c1=> ?_,fun c1=>⟨fun c2=> ?_,fun c2=>⟨fun c5=> ?_,fun c5=> ?_⟩⟩⟩⟩
  ·
   have hk:(aa p.l k).k=0:=Br ((kx U4 F4 0).symm.trans c0);refine⟨fun c=>Yz,fun _=>⟨fun _=> ?_,fun c=>YA⟩⟩;refine az (.l (ES (aa p.l k))::d_Ty (Ao (ak r.T k) (aa p.l k).d) (d_Ty (cn (aa p.l k) (ak r.T k)) [])) (by
    show Dt.l ((E.lq .ln (.ins (.g 1) (.w 180) .nil)).R U4)::(E.tg (.get (.g 1) (.w 180) 5) (.g 178) (.w 180) 1 9 (.vs 183 9 .nil)).D U4=_;rw[ark,QD,aum,hB4,EQ,EX,h5,Gz];rfl) rfl (fun e=> ?_)
   rw[show sP_vrun.F 8=c_valu.F from rfl,auj]at e;have eT:=xi e;refine aY ⟨_,by rw[aro,EQ,EX,h5,eT];rfl,?_⟩;unfold Bz;rw[if_pos hk]
  ·
   have KC:(aa p.l k).k≠0:=Cc ((kx U4 F4 0).symm.trans c0);have hk:(aa p.l k).k=1:=Br ((kx U4 F4 1).symm.trans c1);refine az (.z p.ctx::.l p.l::.l (ES (aa p.l k))::d_Ty (Ao (ak r.T k) (aa p.l k).s) []) (by
    show Dt.z (U4.i 0)::Dt.l (U4.l 1)::Dt.l ((E.lq .ln (.ins (.g 1) (.w 180) .nil)).R U4)::(E.tg (.get (.g 1) (.w 180) 6) (.g 178) (.w 180) 1 9 .nil).D U4=_;rw[ark,QD,EQ,EX,h6,Gz,F4.c,F4.l];rfl) ⟨rfl,hl⟩ (fun e=> ?_)
   rw[show sP_vrun.F 9=c_vacc.F from rfl,anj]at e;have a1:U4.i 195=Ip (Ao (ak r.T k) (aa p.l k).s) (aa p.l k):=e.1;have a2:U4.i 196=IT (Ao (ak r.T k) (aa p.l k).s) (aa p.l k):=e.2.1;have a3:U4.b 197=aD p.ctx (Ao (ak r.T k) (aa p.l k).s) (aa p.l k).off (aa p.l k).sz:=e.2.2.1.trans (ov _);clear e;refine⟨fun cw=> ?_,fun cw=> ?_⟩
   .have hw:=a3.symm.trans cw;have hz:=z3 (wz hw);refine az [.z (aa p.l k).sz] (by
     show[Dt.z ((E.F .i64 (.get (.g 1) (.w 180) 3)).I U4)]=_;rw[hz]) trivial (fun e=> ?_)
    rw[show sP_vrun.F 10=c_vby.F from rfl,avY]at e;have e1:=(aqV (ks:=[]) e).1;refine az (d_Sc (Dc (aa p.l k).sz) []) (by rw[Ub,e1];rfl) trivial (fun e=> ?_);rw[show sP_vrun.F 15=c_vsca.F from rfl,ai6]at e;have eT:=xi e;clear e;refine⟨fun c=>Yz,fun _=>⟨fun _=> ?_,fun c=>YA⟩⟩;have QZ:(E.eq (.nth (.get (.g 1) (.w 180) 6) (.sg (.g 178) (.w 180) 1 11)) (.p 3)).B U4=((Ao (ak r.T k) (aa p.l k).s).k==3):=by show(((E.sg (.g 178) (.w 180) 1 11).L U4).getD ((E.get (.g 1) (.w 180) 6).I U4).toNat 0==3)=_;rw[show(E.sg (.g 178) (.w 180) 1 11).L U4=ic (ak (U4.l 178) (U4.i 180))from rfl,F4.T,F4.i,h6];rfl
    refine⟨fun c3=> ?_,fun c3=> ?_⟩
    .have h3:(Ao (ak r.T k) (aa p.l k).s).k=3:=Br (QZ.symm.trans c3);refine az (d_Sta (BU (ak r.T k) (aa p.l k).d (DO (Dc (aa p.l k).sz))) [.z (Ip (Ao (ak r.T k) (aa p.l k).s) (aa p.l k)),.z (IT (Ao (ak r.T k) (aa p.l k).s) (aa p.l k)),.z (aa p.l k).sz]) (by
      rw[aro,EQ,EX,h5,eT];show d_Sta _ [Dt.z (U4.i 195),.z (U4.i 196),.z ((E.F .i64 (.get (.g 1) (.w 180) 3)).I U4)]=_;rw[hz,a1,a2]) trivial (fun e=> ?_)
     rw[show sP_vrun.F 12=c_tload.F from rfl,arm]at e;have eL:=atH e;have eE:U4.i 222=_:=atG e;clear e;have hv:Bz p (aa p.l k) (ak r.T k)=(BU (BU (ak r.T k) (aa p.l k).d (DO (Dc (aa p.l k).sz))) (aa p.l k).d (C6 U4 213),U4.i 222):=by unfold Bz;rw[if_neg KC,if_pos hk,if_pos hw];unfold RZ;rw[if_pos h3,eL,eE]
     refine⟨fun c9=> ?_,fun c9=> ?_⟩
     .have h0:U4.i 222=0:=Br c9;refine aY ⟨_,by rw[aun,EQ,EX,h5,eT];rfl,?_⟩;rw[hv,h0]
     .have h0:U4.i 222≠0:=Cc c9;show[Dt.l [],.l [],.z (U4.i 180),.z (U4.i 222)]=[.l (AC p).1,.l (AC p).2.1,.z (AC p).2.2.1,.z (AC p).2.2.2];rw[Lq _ (LM _ _ hv h0) h0,F4.i]
    .have h3:¬(Ao (ak r.T k) (aa p.l k).s).k=3:=Cc (QZ.symm.trans c3);refine aY ⟨_,by rw[aro,EQ,EX,h5,eT];rfl,?_⟩;unfold Bz;rw[if_neg KC,if_pos hk,if_pos hw];unfold RZ;rw[if_neg h3]
   .have hw:¬aD p.ctx (Ao (ak r.T k) (aa p.l k).s) (aa p.l k).off (aa p.l k).sz=ZB:=by
     rw[a3.symm.trans cw];simp
    show[Dt.l [],.l [],.z (U4.i 180),.z 111]=[.l (AC p).1,.l (AC p).2.1,.z (AC p).2.2.1,.z (AC p).2.2.2];rw[Lq 111 (LM (ak r.T k) 111 (by unfold Bz;rw[if_neg KC,if_pos hk,if_neg hw]) ST) ST,F4.i]
  ·
   have KC:(aa p.l k).k≠0:=Cc ((kx U4 F4 0).symm.trans c0);have EW:(aa p.l k).k≠1:=Cc ((kx U4 F4 1).symm.trans c1);have hk:(aa p.l k).k=2:=Br ((kx U4 F4 2).symm.trans c2);refine⟨fun c=>Yz,fun _=>⟨fun _=> ?_,fun c=>YA⟩⟩;refine az (.z p.ctx::.l p.l::.l (ES (aa p.l k))::d_Ty (Ao (ak r.T k) (aa p.l k).d) []) (by
    show Dt.z (U4.i 0)::Dt.l (U4.l 1)::Dt.l ((E.lq .ln (.ins (.g 1) (.w 180) .nil)).R U4)::(E.tg (.get (.g 1) (.w 180) 5) (.g 178) (.w 180) 1 9 .nil).D U4=_;rw[ark,QD,EQ,EX,h5,Gz,F4.c,F4.l];rfl) ⟨rfl,hl⟩ (fun e=> ?_)
   rw[show sP_vrun.F 9=c_vacc.F from rfl,anj]at e;have a1:U4.i 195=Ip (Ao (ak r.T k) (aa p.l k).d) (aa p.l k):=e.1;have a2:U4.i 196=IT (Ao (ak r.T k) (aa p.l k).d) (aa p.l k):=e.2.1;have a3:U4.b 197=aD p.ctx (Ao (ak r.T k) (aa p.l k).d) (aa p.l k).off (aa p.l k).sz:=e.2.2.1.trans (ov _);clear e;refine⟨fun cw=> ?_,fun cw=> ?_⟩
   .have hw:=a3.symm.trans cw;have hz:=z3 (wz hw);have QZ:(E.eq (.nth (.get (.g 1) (.w 180) 5) (.sg (.g 178) (.w 180) 1 11)) (.p 3)).B U4=((Ao (ak r.T k) (aa p.l k).d).k==3):=by
     show(((E.sg (.g 178) (.w 180) 1 11).L U4).getD ((E.get (.g 1) (.w 180) 5).I U4).toNat 0==3)=_;rw[show(E.sg (.g 178) (.w 180) 1 11).L U4=ic (ak (U4.l 178) (U4.i 180))from rfl,F4.T,F4.i,h5];rfl
    refine⟨fun c3=> ?_,fun c3=> ?_⟩
    .have h3:(Ao (ak r.T k) (aa p.l k).d).k=3:=Br (QZ.symm.trans c3);refine az (d_Sta (ak r.T k) (.z (Ip (Ao (ak r.T k) (aa p.l k).d) (aa p.l k))::.z (IT (Ao (ak r.T k) (aa p.l k).d) (aa p.l k))::.z (aa p.l k).sz::d_Ty (Ao (ak r.T k) (aa p.l k).s) [])) (by
      rw[T4,EQ,EX];show d_Sta _ (Dt.z (U4.i 195)::.z (U4.i 196)::.z ((E.F .i64 (.get (.g 1) (.w 180) 3)).I U4)::(E.tg (.get (.g 1) (.w 180) 6) (.g 178) (.w 180) 1 9 .nil).D U4)=_;rw[QD,hz,a1,a2,EQ,EX,h6];rfl) trivial (fun e=> ?_)
     rw[show sP_vrun.F 13=c_tstore.F from rfl,alM]at e;have eL:=VN e;have eE:U4.i 369=_:=atI e;clear e;have hv:Bz p (aa p.l k) (ak r.T k)=(Dv U4 198,U4.i 369):=by unfold Bz;rw[if_neg KC,if_neg EW,if_pos hk,if_pos hw];unfold SC;rw[if_pos h3,eL,eE]
     refine⟨fun c9=> ?_,fun c9=> ?_⟩
     .have h0:U4.i 369=0:=Br c9;refine aY ⟨_,by rw[arn];rfl,?_⟩;rw[hv,h0]
     .have h0:U4.i 369≠0:=Cc c9;show[Dt.l [],.l [],.z (U4.i 180),.z (U4.i 369)]=[.l (AC p).1,.l (AC p).2.1,.z (AC p).2.2.1,.z (AC p).2.2.2];rw[Lq _ (LM _ _ hv h0) h0,F4.i]
    .have h3:¬(Ao (ak r.T k) (aa p.l k).d).k=3:=Cc (QZ.symm.trans c3);refine aY ⟨_,by rw[T4,EQ,EX];rfl,?_⟩;unfold Bz;rw[if_neg KC,if_neg EW,if_pos hk,if_pos hw];unfold SC;rw[if_neg h3]
   .have hw:¬aD p.ctx (Ao (ak r.T k) (aa p.l k).d) (aa p.l k).off (aa p.l k).sz=ZB:=by
     rw[a3.symm.trans cw];simp
    show[Dt.l [],.l [],.z (U4.i 180),.z 111]=[.l (AC p).1,.l (AC p).2.1,.z (AC p).2.2.1,.z (AC p).2.2.2];rw[Lq 111 (LM (ak r.T k) 111 (by unfold Bz;rw[if_neg KC,if_neg EW,if_pos hk,if_neg hw]) ST) ST,F4.i]
  ·
   have hk:(aa p.l k).k=5:=Br ((kx U4 F4 5).symm.trans c5);refine az (xs:=[]) rfl trivial (fun e=> ?_);have eT:C6 U4 195=tscal:=xi e;refine aY ⟨_,by rw[auq,EQ,EX,eT],?_⟩;unfold Bz;rw[if_neg Fn,if_neg Fn,if_neg Fn,if_pos hk];rfl
  .have KC:(aa p.l k).k≠0:=Cc ((kx U4 F4 0).symm.trans c0);have EW:(aa p.l k).k≠1:=Cc ((kx U4 F4 1).symm.trans c1);have D1:(aa p.l k).k≠2:=Cc ((kx U4 F4 2).symm.trans c2);have hk5:(aa p.l k).k≠5:=Cc ((kx U4 F4 5).symm.trans c5);refine aY ⟨_,by rw[T4,EQ,EX];rfl,?_⟩;unfold Bz;rw[if_neg KC,if_neg EW,if_neg D1,if_neg hk5]
 intro U5 LO _ Rp;obtain⟨s1,Bp,N5⟩:=Rp;have hS5:Dv U5 195=s1:=aiu (r:=[]) (r':=[]) Bp;clear Bp;have F5:=F4.ag LO ST;have hB5:C6 U5 183=cn (aa p.l k) (ak r.T k):=(zV LO ST).trans hB4;refine⟨fun c=>(by rw[(X5 U5 F5).1]at c;cases c),fun _=>⟨fun _=> ?_,fun c=>(by rw[(X5 U5 F5).2]at c;cases c)⟩⟩;have cae:(E.eq (.nth (.get (.g 1) (.w 180) 5) (.sv 195 11)) (.p 1)).B U5=((Ao s1 (aa p.l k).d).k==1):=by show(((E.sv 195 11).L U5).getD ((E.get (.g 1) (.w 180) 5).I U5).toNat 0==1)=_;rw[show(E.sv 195 11).L U5=ic (Dv U5 195)from rfl,hS5,F5.X 5];rfl
 refine⟨fun ds=>ds=[.z (AE (im (aa p.l k) s1 (cn (aa p.l k) (ak r.T k))))],⟨fun c3=>⟨fun ca=>aY ?_,fun ca=>aY ?_⟩,fun c3=>aY ?_⟩,?_⟩
 .show[Dt.z (AE ((C6 U5 183).k==1))]=_;rw[hB5];unfold im;rw[show((aa p.l k).k==3)=ZB from(kx U5 F5 3).symm.trans c3,cae.symm.trans ca];rfl
 .show[Dt.z (AE ZC)]=_;unfold im;rw[cae.symm.trans ca,aq,ap]
 .show[Dt.z (AE ZC)]=_;unfold im;rw[show((aa p.l k).k==3)=ZC from(kx U5 F5 3).symm.trans c3];rfl
 intro U6 LC _ Qm;have q6:U6.b 366=im (aa p.l k) s1 (cn (aa p.l k) (ak r.T k)):=nN (Dt.z.inj (List.cons.inj Qm).1);clear Qm;have F6:=F5.ag LC ST;have hS6:=(aeO LC ST).trans hS5;have hB6:C6 U6 183=cn (aa p.l k) (ak r.T k):=(zV LC ST).trans hB5;have f6:=(LC 194 ST).2.1.symm.trans ((LO 194 ST).2.1.symm.trans f4);have t16:=(LC 192 ST).1.symm.trans ((LO 192 ST).1.symm.trans ((ML 192 ST).1.symm.trans t1));have t26:=(LC 193 ST).2.1.symm.trans ((LO 193 ST).2.1.symm.trans ((ML 193 ST).2.1.symm.trans t2));have w6:(E.f .and .u64 (.w 177) (.f .sub .u64 (.w 177) (.p 1))).I U6=(ji r).w:=by simp only[E.I,F6.w];rfl
 have n6:(E.f .add .i64 (.w 180) (.p 1)).I U6=Ac .add .i64 (k:Int) 1:=by simp only[E.I,F6.i]
 have on:iW (aa p.l k)=ZB->0<=Ac .add .i64 (k:Int) 1/\Ac .add .i64 (k:Int) 1<(p.l.length:Int):=fun hf=>by obtain⟨k4,k6⟩:=uO hf;obtain⟨e1,e2⟩:=asf hl Al Gq k4 k6;rw[e1];omega
 refine az [.z (aa p.l k).op] (by
  show[Dt.z ((E.get (.g 1) (.w 180) 1).I U6)]=_;rw[F6.X 1];rfl) trivial (fun e=> ?_)
 have b7:U6.i 367=il (aa p.l k).op:=e.1;have b8:U6.b 368=gv (aa p.l k).op:=e.2.1.trans (ov _);clear e;refine⟨fun ds=>∃r1:VR,ds=[.z r1.w,.l r1.T,.l r1.g]/\r1=(gA k (aa p.l k) s1 (cn (aa p.l k) (ak r.T k))).foldl AP (ji r),?_,?_⟩
 .refine adV (kk:=fun w T g=>.next 6 (.cons w (.N T (.N g .nil)))) F6 hS6 hB6 Nf w6 F6.T F6.g n6 on q3 f6 q6 b7 b8 (fun w' T' g' h1 h2 h3=>aY ⟨_,?_,rfl⟩);simp only[E.D,h1,h2,h3]
 intro U7 Ls _ Q3;obtain⟨r1,Bp,Hs⟩:=Q3;have hV1:VI p r1:=by rw[Hs];exact VI.puts q3 _ Nf (xK hl Al Gq)
 rw[show varsD U7 369 _=[.z (U7.i 369),.l (U7.l 370),.l (U7.l 371)]from rfl]at Bp;simp only[Be,Dt.z.injEq,Dt.l.injEq,and_true]at Bp;have F7:=F6.ag Ls ST;refine adT (kk:=fun w T g=>.next 0 (.cons (.w 180) (.cons (.f .add .i64 (.w 176) (.p 1)) (.cons w (.N T (.N g .nil)))))) F7 ((aeO Ls ST).trans hS6) ((zV Ls ST).trans hB6) hV1 Bp.1 Bp.2.1 Bp.2.2 ((Ls 192 ST).1.symm.trans t16) ((Ls 193 ST).2.1.symm.trans t26) (arD hl Al Gq) q3 ((Ls 366 ST).2.1.symm.trans q6) (fun w' T' g' h1 h2 h3=> ?_);rw[Hs]at h1 h2 h3;exact ahc ST (aY (Hv s1 N5 U7 F7 w' T' g' h1 h2 h3))
def agt{sp:Spec}{key:Nat}(hF:sp.F key=tI)(hP:sp.pre key=pI)(hH:∀w,sp.hw w->Jc w:=by exact fun _ h=>h):SmOk Tryz.prog sp (tH key):=Ut (s:=tH key) (hW:=hH) hF hP (by kernel_rfl) ad9 (EK (ak5 rfl rfl)<|EK (akW rfl rfl)<|EK (agu rfl)<|EK (auZ rfl rfl)<|EK (auJ rfl)<|EK (amS rfl rfl)<|EK (UJ rfl rfl)<|EK (atl rfl rfl)<|EK (asW rfl rfl)<|EK (asX rfl rfl)<|EK (aqi rfl rfl)<|EK (ql rfl rfl)<|EK (aqm rfl rfl)<|EK (akT rfl rfl)<|EK (asR rfl rfl)<|EK (asO rfl rfl)<|EK (akU rfl rfl)<|EK (aql rfl rfl) TC) Tryz.func6 (GB Tryz.func15 (GB Tryz.func41 (GB Tryz.func42 E2))) apc (.inr (.inl ⟨(fun xs h L hL=>by unfold pI at h;split at h<;>first|exact h.elim|(simp at hL;subst hL;exact h)),rfl⟩)) (gS fun p gp=>fun hp=>ao5 p gp hp)
end Go.Proofs.YtgolejfhoefeaaaGreatDoor
