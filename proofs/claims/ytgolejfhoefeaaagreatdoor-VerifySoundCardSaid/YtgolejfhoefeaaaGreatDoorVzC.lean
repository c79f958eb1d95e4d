import Derived.Test.YtgolejfhoefeaaaGreatDoorAgZ
import Derived.Test.YtgolejfhoefeaaaGreatDoorProg
import Derived.Laws.Externs
set_option maxRecDepth 100000
set_option maxHeartbeats 8000000
set_option linter.defProp false
set_option linter.unusedVariables false
set_option linter.unusedSimpArgs false
namespace Go.Proofs.YtgolejfhoefeaaaGreatDoor
open Bool renaming true->ZB,false->ZC
open Option renaming none->ZE
open Go.IntKind renaming wrap->ZG
open List renaming replicate->ZM
open Go.Proofs.Tryz
open Go.RowKit Go.ChangeShapes Go.WideShapes
def aes:List (Nat×TI):=[(2,CC),
 (3,CZ),
 (4,EK),
 (22,vq),
 (24,vp),
 (29,Uh),
 (30,Ug),
 (32,Uf),
 (33,Qt),
 (38,fY),
 (39,fe),
 (46,ic),
 (48,jr),
 (50,eU),
 (52,rh),
 (53,rb),
 (54,ra),
 (56,aai),
 (66,qZ),
 (70,⟨ZC,1,[.np],[],ZE,ZE,ZC,ZC,ZE,8,ZC,ZE,ZC,1⟩),
 (71,⟨ZB,64,[.np,.np,.np,.np,.np,.np,.np,.np,.np,.np,.np,.np,.np,.np,.np,.np,.np,.np,.np,.np,.np,.np,.np,.np,.np,.np,.np,.np,.np,.np,.np,.np,.np,.np,.np,.np,.np,.np,.np,.np,.np,.np,.np,.np,.np,.np,.np,.np,.np,.np,.np,.np,.np,.np,.np,.np,.np,.np,.np,.np,.np,.np,.np,.np],[],some (64,70),ZE,ZC,ZC,ZE,512,ZC,ZE,ZC,0⟩),
 (72,⟨ZB,64,(zN 64 2222222222222222222222222222222222222222222222222222222222222222),[],some (64,3),ZE,ZC,ZC,ZE,512,ZC,ZE,ZC,0⟩),
 (74,⟨ZB,1,[.int .u64 (.p 0)],[],some (1,39),ZE,ZC,ZC,ZE,8,ZC,ZE,ZC,0⟩),
 (82,⟨ZB,172,(zN 172 2211221102211221102211221102211221102211221102211221102211221102211221102211221102211221102211221102211221102211221102211221102211221102211221102211221102211221102211221102),[(0,3),(1,56)],ZE,ZE,ZC,ZC,ZE,1376,ZC,ZE,ZC,0⟩),
 (96,Ud),
 (102,⟨ZC,1,[.np],[],ZE,ZE,ZC,ZC,ZE,8,ZC,ZE,ZC,1⟩),
 (114,⟨ZC,1,[.nsl],[],ZE,ZE,ZC,ZC,some 52,24,ZC,ZE,ZC,0⟩),
 (116,⟨ZC,1,[.nf],[],ZE,ZE,ZC,ZC,ZE,8,ZB,ZE,ZC,0⟩)]
def aej:∀t i,(t,i)∈aes->TIok Tryz.prog t i:=bl (DS (z:=Ev) ⟨ru,lx⟩<|DS (z:=Dw) ⟨rt,lw⟩<|DS (z:=PM) ⟨anl,aim⟩<|DS (z:=lX) ⟨ly,iq⟩ B1) B1 (by kernel_rfl)
def tS(key:Nat):Sm:=⟨6,key,[.agg kProg],[.agg [.sl [ZE] 4,.sl EH 56],.one (.int .i64),.one (.int .i64)],ZB⟩
def apj(p:Prog):List Dt:=[.l (AC p).1,.l (AC p).2.1,.z ((AC p).2.2.1),.z ((AC p).2.2.2)]
def tT:List Dt->List Dt
 |[.z x0,.l x1]=>apj ⟨x0,x1⟩
 |_=>[]
def yC:Tr:=
(.call 0 [.int .i64,.int .i64] (.cons (.w 0) (.N (.g 1) .nil)) 2
(.br (.eq (.w 3) (.p 0))
(.call 1 (kSta) .nil 4
(.loop 0 175 [.int .i64,.int .i64,.int .u64,.list O0,.list [some .i64]] (.zs [0,0,1] (.N (.lput (.lrep (.p 64) (.j (.tt ZC) (.zr 171 .nil))) (.p 0) (.j (.tt ZB) (.vs 4 171 .nil))) (.N (.lrep (.p 64) (.cons (.p 0) .nil)) .nil)))
(.br (.eq (.w 177) (.p 0))
(.loop 1 180 [.int .i64,.list [ZE],.list EH,.list O0] (.cons (.p 0) (.N .ln (.N .ln (.N (.g 178) .nil))))
(.br (.lt (.w 180) (.len (.g 1)))
(.br (.lt (.w 180) (.p 0))
.panic
(.br (.lt (.w 180) (.p 64))
(.br (.lt (.w 180) (.len (.g 183)))
(.br (.getb (.g 183) (.w 180) 0)
(.br (.lt (.len (.g 181)) (.p 1073741824))
(.br (.lt (.len (.g 182)) (.p 1073741824))
(.next 1 (.cons (.f .add .i64 (.w 180) (.p 1)) (.N (.lq (.g 181) (.j (.tt ZB) .nil)) (.N (.lq (.g 182) (.gs (.g 183) (.w 180) 1 171 .nil)) (.N (.g 183) .nil)))))
.panic)
.panic)
(.br (.lt (.len (.g 181)) (.p 1073741824))
(.br (.lt (.len (.g 182)) (.p 1073741824))
(.next 1 (.cons (.f .add .i64 (.w 180) (.p 1)) (.N (.lq (.g 181) (.j (.tt ZC) .nil)) (.N (.lq (.g 182) (.zr 171 .nil)) (.N (.lput (.g 183) (.w 180) (.j (.tt ZB) (.zr 171 .nil))) .nil)))))
.panic)
.panic))
(.stuck 270))
.panic))
(.u (.N (.g 181) (.N (.g 182) (.cons (.p 0) (.cons (.p 0) .nil)))))))
(.br (.eq (.w 176) (.p 2000))
(.u (.N .ln (.N .ln (.cons (.w 175) (.cons (.p 112) .nil)))))
(.call 2 [.int .i64] (.cons (.w 177) .nil) 180
(.br (.lt (.w 180) (.p 0))
.panic
(.br (.lt (.w 180) (.p 64))
(.br (.lt (.w 180) (.len (.g 178)))
(.br (.getb (.g 178) (.w 180) 0)
(.br (.lt (.w 180) (.len (.g 1)))
(.call 3 [.int .i64] (.ins (.g 1) (.w 180) .nil) 181
(.loop 1 182 [.int .i64] (.cons (.w 181) .nil)
(.br (.lt (.p 0) (.w 182))
(.call 4 [.int .i64] (.cons (.F .u64 (.w 182)) .nil) 183
(.br (.lt (.w 183) (.p 0))
.panic
(.br (.lt (.w 183) (.p 11))
(.br (.eq (.nth (.w 183) (.sg (.g 178) (.w 180) 1 11)) (.p 0))
(.u (.N .ln (.N .ln (.cons (.w 180) (.cons (.p 110) .nil)))))
(.next 1 (.cons (.f .and .i64 (.w 182) (.f .sub .i64 (.w 182) (.p 1))) .nil)))
.panic)))
(.br (.lt (.get (.g 1) (.w 180) 6) (.p 0))
.panic
(.br (.lt (.get (.g 1) (.w 180) 6) (.p 11))
(.cut 2 183 [.int .i8,.int .u64,.int .u64,.int .i64,.int .i64,.int .u64,.int .u64,.int .i64,.int .i64]
(.br (.getb (.g 1) (.w 180) 4)
(.next 2 (.tg (.get (.g 1) (.w 180) 6) (.g 178) (.w 180) 1 9 .nil))
(.call 6 (kSc) (.cons (.F .u64 (.get (.g 1) (.w 180) 8)) .nil) 183
(.call 15 (kTy) (.vs 183 6 .nil) 189
(.next 2 (.vs 189 9 .nil)))))
(.call 5 [.int .i64,.bool] (.cons (.w 180) (.ins (.g 1) (.w 180) .nil)) 192
(.cut 3 194 [.bool]
(.br (.eq (.get (.g 1) (.w 180) 0) (.p 4))
(.next 3 (.j (.tt ZC) .nil))
(.next 3 (.j (.not (.eq (.get (.g 1) (.w 180) 0) (.p 6))) .nil)))
(.cut 4 195 [.int .i8,.int .u64,.int .u64,.int .i64,.int .i64,.int .u64,.int .u64,.int .i64,.int .i64,.int .i8,.int .u64,.int .u64,.int .i64,.int .i64,.int .u64,.int .u64,.int .i64,.int .i64,.int .i8,.int .u64,.int .u64,.int .i64,.int .i64,.int .u64,.int .u64,.int .i64,.int .i64,.int .i8,.int .u64,.int .u64,.int .i64,.int .i64,.int .u64,.int .u64,.int .i64,.int .i64,.int .i8,.int .u64,.int .u64,.int .i64,.int .i64,.int .u64,.int .u64,.int .i64,.int .i64,.int .i8,.int .u64,.int .u64,.int .i64,.int .i64,.int .u64,.int .u64,.int .i64,.int .i64,.int .i8,.int .u64,.int .u64,.int .i64,.int .i64,.int .u64,.int .u64,.int .i64,.int .i64,.int .i8,.int .u64,.int .u64,.int .i64,.int .i64,.int .u64,.int .u64,.int .i64,.int .i64,.int .i8,.int .u64,.int .u64,.int .i64,.int .i64,.int .u64,.int .u64,.int .i64,.int .i64,.int .i8,.int .u64,.int .u64,.int .i64,.int .i64,.int .u64,.int .u64,.int .i64,.int .i64,.int .i8,.int .u64,.int .u64,.int .i64,.int .i64,.int .u64,.int .u64,.int .i64,.int .i64,.int .i8,.int .u64,.int .u64,.int .i64,.int .i64,.int .u64,.int .u64,.int .i64,.int .i64,.int .i8,.int .u64,.int .u64,.int .i64,.int .i64,.int .u64,.int .u64,.int .i64,.int .i64,.int .i8,.int .u64,.int .u64,.int .i64,.int .i64,.int .u64,.int .u64,.int .i64,.int .i64,.int .i8,.int .u64,.int .u64,.int .i64,.int .i64,.int .u64,.int .u64,.int .i64,.int .i64,.int .i8,.int .u64,.int .u64,.int .i64,.int .i64,.int .u64,.int .u64,.int .i64,.int .i64,.int .i8,.int .u64,.int .u64,.int .i64,.int .i64,.int .u64,.int .u64,.int .i64,.int .i64,.int .i8,.int .u64,.int .u64,.int .i64,.int .i64,.int .u64,.int .u64,.int .i64,.int .i64,.int .i8,.int .u64,.int .u64,.int .i64,.int .i64,.int .u64,.int .u64,.int .i64,.int .i64]
(.br (.eq (.get (.g 1) (.w 180) 0) (.p 0))
(.br (.lt (.get (.g 1) (.w 180) 5) (.p 0))
.panic
(.br (.lt (.get (.g 1) (.w 180) 5) (.p 11))
(.call 8 (kTy) (.N (.lq .ln (.ins (.g 1) (.w 180) .nil)) (.tg (.get (.g 1) (.w 180) 5) (.g 178) (.w 180) 1 9 (.vs 183 9 .nil))) 195
(.next 4 (.rg (.get (.g 1) (.w 180) 5) (.vs 195 9 .nil) (.gs (.g 178) (.w 180) 1 99 .nil) (.gs (.g 178) (.w 180) 100 72 .nil))))
.panic))
(.br (.eq (.get (.g 1) (.w 180) 0) (.p 1))
(.call 9 [.int .i64,.int .i64,.bool] (.cons (.w 0) (.N (.g 1) (.N (.lq .ln (.ins (.g 1) (.w 180) .nil)) (.tg (.get (.g 1) (.w 180) 6) (.g 178) (.w 180) 1 9 .nil)))) 195
(.br (.s 197)
(.call 10 (kSc) (.cons (.F .i64 (.get (.g 1) (.w 180) 3)) .nil) 198
(.call 15 (kTy) (.vs 198 6 .nil) 204
(.br (.lt (.get (.g 1) (.w 180) 5) (.p 0))
.panic
(.br (.lt (.get (.g 1) (.w 180) 5) (.p 11))
(.br (.eq (.nth (.get (.g 1) (.w 180) 6) (.sg (.g 178) (.w 180) 1 11)) (.p 3))
(.call 12 (kTy++[.int .i64]) (.rg (.get (.g 1) (.w 180) 5) (.vs 204 9 .nil) (.gs (.g 178) (.w 180) 1 99 .nil) (.gs (.g 178) (.w 180) 100 72 (.vs 195 2 (.cons (.F .i64 (.get (.g 1) (.w 180) 3)) .nil)))) 213
(.br (.eq (.w 222) (.p 0))
(.next 4 (.rg (.get (.g 1) (.w 180) 5) (.vs 213 9 .nil) (.rg (.get (.g 1) (.w 180) 5) (.vs 204 9 .nil) (.gs (.g 178) (.w 180) 1 99 .nil) .nil) (.gs (.g 178) (.w 180) 100 72 .nil)))
(.u (.N .ln (.N .ln (.cons (.w 180) (.cons (.w 222) .nil)))))))
(.next 4 (.rg (.get (.g 1) (.w 180) 5) (.vs 204 9 .nil) (.gs (.g 178) (.w 180) 1 99 .nil) (.gs (.g 178) (.w 180) 100 72 .nil))))
.panic))))
(.u (.N .ln (.N .ln (.cons (.w 180) (.cons (.p 111) .nil)))))))
(.br (.eq (.get (.g 1) (.w 180) 0) (.p 2))
(.br (.lt (.get (.g 1) (.w 180) 5) (.p 0))
.panic
(.br (.lt (.get (.g 1) (.w 180) 5) (.p 11))
(.call 9 [.int .i64,.int .i64,.bool] (.cons (.w 0) (.N (.g 1) (.N (.lq .ln (.ins (.g 1) (.w 180) .nil)) (.tg (.get (.g 1) (.w 180) 5) (.g 178) (.w 180) 1 9 .nil)))) 195
(.br (.s 197)
(.br (.eq (.nth (.get (.g 1) (.w 180) 5) (.sg (.g 178) (.w 180) 1 11)) (.p 3))
(.call 13 (kSta++[.int .i64]) (.gs (.g 178) (.w 180) 1 171 (.vs 195 2 (.cons (.F .i64 (.get (.g 1) (.w 180) 3)) (.tg (.get (.g 1) (.w 180) 6) (.g 178) (.w 180) 1 9 .nil)))) 198
(.br (.eq (.w 369) (.p 0))
(.next 4 (.vs 198 171 .nil))
(.u (.N .ln (.N .ln (.cons (.w 180) (.cons (.w 369) .nil)))))))
(.next 4 (.gs (.g 178) (.w 180) 1 171 .nil)))
(.u (.N .ln (.N .ln (.cons (.w 180) (.cons (.p 111) .nil)))))))
.panic))
(.br (.eq (.get (.g 1) (.w 180) 0) (.p 5))
(.call 11 (kTy) .nil 195
(.next 4 (.vs 195 9 (.zr 45 (.gs (.g 178) (.w 180) 55 117 .nil)))))
(.next 4 (.gs (.g 178) (.w 180) 1 171 .nil))))))
(.br (.lt (.get (.g 1) (.w 180) 5) (.p 0))
.panic
(.br (.lt (.get (.g 1) (.w 180) 5) (.p 11))
(.cut 5 366 [.bool]
(.br (.eq (.get (.g 1) (.w 180) 0) (.p 3))
(.br (.eq (.nth (.get (.g 1) (.w 180) 5) (.sv 195 11)) (.p 1))
(.next 5 (.j (.eq (.w 183) (.p 1)) .nil))
(.next 5 (.j (.tt ZC) .nil)))
(.next 5 (.j (.tt ZC) .nil)))
(.call 7 [.int .i8,.bool] (.cons (.get (.g 1) (.w 180) 1) .nil) 367
(.cut 6 369 [.int .u64,.list O0,.list [some .i64]]
(.br (.s 194)
(.br (.s 366)
(.br (.s 368)
(.call 14 (kSc++[.bool]) (.cons (.w 367) (.tn (.get (.g 1) (.w 180) 5) 196 6 (.vs 184 6 .nil))) 369
(.br (.s 375)
(.call 15 (kTy) (.vs 369 6 .nil) 376
(FP (.f .add .i64 (.w 180) (.p 1)) (fun t=>(.rg (.get (.g 1) (.w 180) 5) (.vs 376 9 .nil) (.vs 195 99 .nil) (.vs 294 72 t))) (.f .and .u64 (.w 177) (.f .sub .u64 (.w 177) (.p 1))) (.g 178) (.g 179) 385 (fun w T g=>.next 6 (.cons w (.N T (.N g .nil))))))
(.next 6 (.cons (.f .and .u64 (.w 177) (.f .sub .u64 (.w 177) (.p 1))) (.N (.g 178) (.N (.g 179) .nil))))))
(FP (.f .add .i64 (.w 180) (.p 1)) (fun t=>(.vs 195 171 t)) (.f .and .u64 (.w 177) (.f .sub .u64 (.w 177) (.p 1))) (.g 178) (.g 179) 369 (fun w T g=>.next 6 (.cons w (.N T (.N g .nil))))))
(FP (.f .add .i64 (.w 180) (.p 1)) (fun t=>(.vs 195 171 t)) (.f .and .u64 (.w 177) (.f .sub .u64 (.w 177) (.p 1))) (.g 178) (.g 179) 369 (fun w T g=>.next 6 (.cons w (.N T (.N g .nil))))))
(.next 6 (.cons (.f .and .u64 (.w 177) (.f .sub .u64 (.w 177) (.p 1))) (.N (.g 178) (.N (.g 179) .nil)))))
(.br (.s 193)
(.br (.s 366)
(.call 14 (kSc++[.bool]) (.cons (.get (.g 1) (.w 180) 1) (.tn (.get (.g 1) (.w 180) 5) 196 6 (.vs 184 6 .nil))) 372
(.br (.s 378)
(.call 15 (kTy) (.vs 372 6 .nil) 379
(FP (.w 192) (fun t=>(.rg (.get (.g 1) (.w 180) 5) (.vs 379 9 .nil) (.vs 195 99 .nil) (.vs 294 72 t))) (.w 369) (.g 370) (.g 371) 388 (fun w T g=>.next 0 (.cons (.w 180) (.cons (.f .add .i64 (.w 176) (.p 1)) (.cons w (.N T (.N g .nil))))))))
(.next 0 (.cons (.w 180) (.cons (.f .add .i64 (.w 176) (.p 1)) (.cons (.w 369) (.N (.g 370) (.N (.g 371) .nil))))))))
(FP (.w 192) (fun t=>(.vs 195 171 t)) (.w 369) (.g 370) (.g 371) 372 (fun w T g=>.next 0 (.cons (.w 180) (.cons (.f .add .i64 (.w 176) (.p 1)) (.cons w (.N T (.N g .nil))))))))
(.next 0 (.cons (.w 180) (.cons (.f .add .i64 (.w 176) (.p 1)) (.cons (.w 369) (.N (.g 370) (.N (.g 371) .nil))))))))))
.panic))))))
.panic)))))
.panic)
.panic)
(.stuck 270))
.panic)))))))
(.u (.N .ln (.N .ln (.vs 2 2 .nil))))))
def sP_vrun:Spec:={F:=fun k=>match k with|0=>c_icheck.F|1=>c_tfirst.F|2=>pW|3=>c_vrd.F|4=>UC|5=>c_itgt.F|6=>c_vone.F|7=>c_bnot.F|8=>c_valu.F|9=>c_vacc.F|10=>c_vby.F|11=>c_tscal.F|12=>c_tload.F|13=>c_tstore.F|14=>c_vgiv.F|15=>c_vsca.F|16=>c_tsjoin.F|17=>c_tswid.F|_=>fun _=>[],pre:=fun k=>match k with|0=>jT|8=>pS|9=>pT|_=>fun _=>True,hw:=Jr,hx:=Vl,hi:=Vj}
def apn:cg aes [c_icheck.m 0,c_tfirst.m 1,yK 2,c_vrd.m 3,apt 4,c_itgt.m 5,c_vone.m 6,c_bnot.m 7,c_valu.m 8,c_vacc.m 9,c_vby.m 10,c_tscal.m 11,c_tload.m 12,c_tstore.m 13,c_vgiv.m 14,c_vsca.m 15,c_tsjoin.m 16,c_tswid.m 17] [(15,f15,[(3,[.tmpI 9 .i64]++E3 [(6,2),(36,14)]),(999999,[]),(999998,[])],[(10,[.cels 11 0 (kN 9 221122110)]++E3 [(57,12)]),(12,[.tmpX 13 [ZE] 4]++E3 [(77,12)]),(37,[.cels 9 0 EH]++E3 [(6,2),(14,8),(89,129)]),(39,[.tmpX 23 [ZE] 4]++E3 [(225,15)])]),(41,f41,[(999999,[]),(999998,[])],[(3,[.cI 6 0 .u64,.row 3,.row 4]++E3 [(15,10)])]),(42,f42,[(999999,[]),(999998,[])],[])] [(11,[.tmpI 10 .i64,.tmpI 12 .i64,.cI 6 0 .u64,.row 3,.row 4]++E3 [(3,2),(13,6),(34,36),(71,45)]),(35,[.tmpI 119 .i64,.cT 7 0 [ZE] 4,.cT 7 1 EH 56,.row 3]++E3 [(20,1),(120,30)]),(999999,[]),(999997,[]),(999995,[.tmpS 71 EH 56]),(999994,[.only [56,82]]),(999993,[.only [72]])] [] 200 f6 [.agg kProg] [.agg [.sl [ZE] 4,.sl EH 56],.one (.int .i64),.one (.int .i64)] ZB (v_Prog []) yC:=E4 (by kernel_rfl)
def pR:List Dt->Prop
 |[.z x0,.l x1]=>let f (p:Prog):Prop:=p.l.length<=maxLen;f ⟨x0,x1⟩
 |_=>False
def anw(a c:Sta):c_tsjoin.F (d_Sta a (d_Sta c []))=d_Sta (iO ZC a c) [.z (FT a c)]:=by simp only[c_tsjoin];rw[bY,bY]
def auq(a c:Sta):c_tswid.F (d_Sta a (d_Sta c []))=d_Sta (iO ZB a c) [.z (FT a c)]:=by simp only[c_tswid];rw[bY,bY]
structure RF(p:Prog)(AY:Int)(r:VR)(k:Nat)(U:Env):Prop where
 l:U.l 1=p.l
 c:U.i 0=p.ctx
 v:U.i 176=AY
 w:U.i 177=r.w
 T:U.l 178=r.T
 g:U.l 179=r.g
 i:U.i 180=(k:Int)
def RF.ag{p:Prog}{AY:Int}{r:VR}{k n:Nat}{U U':Env}(h:RF p AY r k U)(ha:Ag n U U')(hn:181<=n):RF p AY r k U':=⟨(kL ha h.l Fn),(kI ha h.c Fn),(kI ha h.v Fn),(kI ha h.w Fn),(kL ha h.T Fn),(kL ha h.g Fn),(kI ha h.i Fn)⟩
def RF.X{p:Prog}{AY:Int}{r:VR}{k:Nat}{U:Env}(h:RF p AY r k U)(c:Nat):(E.get (.g 1) (.w 180) c).I U=gt p.l k c:=by simp only[E.I,E.R,h.l,h.i]
def aoV(cc n:E)(w T g:E)(v:Nat)(k:E->E->E->Tr):Tr:=
 .call 14 (kSc++[.bool]) (.cons cc (.tn (.get (.g 1) (.w 180) 5) 196 6 (.vs 184 6 .nil))) v
  (.br (.s (v+6))
   (.call 15 kTy (.vs v 6 .nil) (v+7)
    (FP n (fun t=>.rg (.get (.g 1) (.w 180) 5) (.vs (v+7) 9 .nil) (.vs 195 99 .nil) (.vs 294 72 t)) w T g (v+16) k))
   (k w T g))
section
variable {G:Env->E->Prop}{U:Env}{I:Nat->List Dt->Prop}{p:Prog}{AY:Int}{r r1:VR}{k:Nat}{s1:Sta}{b:Ty}{n w T g cc:E}{v:Nat}{m c:Int}{kk:E->E->E->Tr}
def rE(F:RF p AY r k U)(hS:Du U 195=s1)(hB:Da U 183=b)(h:VI p r1)(hw:w.I U=r1.w)(hT:T.R U=r1.T)(hg:g.R U=r1.g)(hn:n.I U=m)(hm:0<=m/\m<(p.l.length:Int))(hl:p.l.length<=64)(hc:cc.I U=c)(hk:∀w' T' g':E,w'.I U=((C0 s1 (ab p.l k).d (Ao s1 (ab p.l k).d) b ZB m c ZB).foldl AQ r1).w->T'.R U=((C0 s1 (ab p.l k).d (Ao s1 (ab p.l k).d) b ZB m c ZB).foldl AQ r1).T->g'.R U=((C0 s1 (ab p.l k).d (Ao s1 (ab p.l k).d) b ZB m c ZB).foldl AQ r1).g->(kk w' T' g').asks sP_vrun G U I):(aoV cc n w T g v kk).asks sP_vrun G U I:=by
 have hX:(E.get (.g 1) (.w 180) 5).I U=(ab p.l k).d:=F.X 5;refine aD (.z c::d_Sc (Ao s1 (ab p.l k).d).s (d_Sc b.s [])) (by
  show Dt.z (cc.I U)::(E.tn (.get (.g 1) (.w 180) 5) (195+1) 6 (.vs (183+1) 6 .nil)).D U=_;rw[awb,UI,hS,hX,hc,auR,hB];rfl) trivial (fun e=> ?_)
 rw[show sP_vrun.F 14=c_vgiv.F from rfl,aus]at e;obtain⟨e1,e2,_⟩:=aq6 e;have e3:U.b (v+6)=DI c (Ao s1 (ab p.l k).d).s b.s:=e2.trans (oE _);refine⟨fun c0=> ?_,fun c0=> ?_⟩
 .have Aj:DI c (Ao s1 (ab p.l k).d).s b.s=ZB:=e3.symm.trans c0;refine aD (d_Sc (Eu c (Ao s1 (ab p.l k).d).s b.s) []) (by rw[UI,e1];rfl) trivial (fun e=> ?_);rw[show sP_vrun.F 15=c_vsca.F from rfl,ajh]at e;have eT:=xv e;refine wJ (s:=BX s1 (ab p.l k).d (DQ (Eu c (Ao s1 (ab p.l k).d).s b.s))) auq anw (fun _=>trivial) (fun _=>trivial) h hw hT hg hn hm hl (fun t=> ?_) ?_ ?_
  .rw[awc (n:=195),hS,hX,eT]
  .rw[av8 (n:=195),hS,hX,eT]
  .have hv:C0 s1 (ab p.l k).d (Ao s1 (ab p.l k).d) b ZB m c ZB=[(m,BX s1 (ab p.l k).d (DQ (Eu c (Ao s1 (ab p.l k).d).s b.s)))]:=by
    unfold C0;rw[ae (by rfl),ae Aj]
   rw[hv]at hk;exact hk
 .have Aj:¬DI c (Ao s1 (ab p.l k).d).s b.s=ZB:=by
   rw[<-e3];intro h9;rw[show(E.s (v+6)).B U=U.b (v+6)from rfl,h9]at c0;cases c0
  have hv:C0 s1 (ab p.l k).d (Ao s1 (ab p.l k).d) b ZB m c ZB=[]:=by unfold C0;rw[ae (by rfl),aa Aj]
  rw[hv]at hk;exact hk _ _ _ hw hT hg
def lI(hS:Du U 195=s1)(h:VI p r1)(hw:w.I U=r1.w)(hT:T.R U=r1.T)(hg:g.R U=r1.g)(hn:n.I U=m)(hm:0<=m/\m<(p.l.length:Int))(hl:p.l.length<=64)(hk:∀w' T' g':E,w'.I U=([(m,s1)].foldl AQ r1).w->T'.R U=([(m,s1)].foldl AQ r1).T->g'.R U=([(m,s1)].foldl AQ r1).g->(kk w' T' g').asks sP_vrun G U I):(FP n (fun t=>.vs 195 171 t) w T g v kk).asks sP_vrun G U I:=
 wJ (s:=s1) auq anw (fun _=>trivial) (fun _=>trivial) h hw hT hg hn hm hl (fun t=>by rw[arA,hS]) (by rw[ary,hS]) hk
end
def RI(p:Prog)(ds:List Dt):Prop:=∃(last AY:Int) (r:VR),ds=[.z last,.z AY,.z r.w,.l r.T,.l r.g]/\VI p r/\(0<=AY/\AY<=2000)/\jq p (2000-AY).toNat last r=AC p
def RM(ds:List Dt):Nat:=(2000-dI ds 1).toNat
section
variable {G:Env->E->Prop}{U:Env}{I:Nat->List Dt->Prop}{p:Prog}{AY:Int}{r r1:VR}{k:Nat}{s1:Sta}{b:Ty}{n w T g:E}{v:Nat}{kk:E->E->E->Tr}
def ad5(F:RF p AY r k U)(hS:Du U 195=s1)(hB:Da U 183=b)(h:VI p r1)(hw:w.I U=r1.w)(hT:T.R U=r1.T)(hg:g.R U=r1.g)(hn:n.I U=Ac .add .i64 (k:Int) 1)(hm:jb (ab p.l k)=ZB->0<=Ac .add .i64 (k:Int) 1/\Ac .add .i64 (k:Int) 1<(p.l.length:Int))(hl:p.l.length<=64)(t4:U.b 194=jb (ab p.l k))(t6:U.b 366=iw (ab p.l k) s1 b)(t7:U.i 367=iu (ab p.l k).op)(t8:U.b 368=gD (ab p.l k).op)(nx:∀w' T' g':E,w'.I U=((gF k (ab p.l k) s1 b).foldl AQ r1).w->T'.R U=((gF k (ab p.l k) s1 b).foldl AQ r1).T->g'.R U=((gF k (ab p.l k) s1 b).foldl AQ r1).g->(kk w' T' g').asks sP_vrun G U I):(Tr.br (.s 194) (.br (.s 366) (.br (.s 368) (aoV (.w 367) n w T g 369 kk) (FP n (fun t=>.vs 195 171 t) w T g v kk)) (FP n (fun t=>.vs 195 171 t) w T g v kk)) (kk w T g)).asks sP_vrun G U I:=by
 refine⟨fun c=> ?_,fun c=> ?_⟩
 .have hf:jb (ab p.l k)=ZB:=t4.symm.trans c;obtain⟨k4,k6⟩:=uZ hf;refine⟨fun c6=>⟨fun c8=> ?_,fun c8=> ?_⟩,fun c6=> ?_⟩
  .rw[ad4 k4 k6 (by rw[show iw (ab p.l k) s1 b=ZB from t6.symm.trans c6,show gD (ab p.l k).op=ZB from t8.symm.trans c8];rfl)]at nx;exact rE F hS hB h hw hT hg hn (hm hf) hl t7 nx
  .rw[zV k4 k6 (by rw[show gD (ab p.l k).op=ZC from t8.symm.trans c8,au])]at nx;exact lI hS h hw hT hg hn (hm hf) hl nx
  .rw[zV k4 k6 (by rw[show iw (ab p.l k) s1 b=ZC from t6.symm.trans c6];rfl)]at nx;exact lI hS h hw hT hg hn (hm hf) hl nx
 .rw[ajB (ajG (t4.symm.trans c))]at nx;exact nx _ _ _ hw hT hg
def ad3(F:RF p AY r k U)(hS:Du U 195=s1)(hB:Da U 183=b)(h:VI p r1)(e1:U.i 369=r1.w)(e2:U.l 370=r1.T)(e3:U.l 371=r1.g)(t1:U.i 192=(AO k (ab p.l k)).1)(t2:U.b 193=(AO k (ab p.l k)).2)(hm:(AO k (ab p.l k)).2=ZB->0<=(AO k (ab p.l k)).1/\(AO k (ab p.l k)).1<(p.l.length:Int))(hl:p.l.length<=64)(t6:U.b 366=iw (ab p.l k) s1 b)(nx:∀w' T' g':E,w'.I U=((ib k (ab p.l k) s1 b).foldl AQ r1).w->T'.R U=((ib k (ab p.l k) s1 b).foldl AQ r1).T->g'.R U=((ib k (ab p.l k) s1 b).foldl AQ r1).g->(kk w' T' g').asks sP_vrun G U I):(Tr.br (.s 193) (.br (.s 366) (aoV (.get (.g 1) (.w 180) 1) (.w 192) (.w 369) (.g 370) (.g 371) 372 kk) (FP (.w 192) (fun t=>.vs 195 171 t) (.w 369) (.g 370) (.g 371) v kk)) (kk (.w 369) (.g 370) (.g 371))).asks sP_vrun G U I:=by
 refine⟨fun c=> ?_,fun c=> ?_⟩
 .have hj:(AO k (ab p.l k)).2=ZB:=t2.symm.trans c;refine⟨fun c2=> ?_,fun c2=> ?_⟩
  .rw[ad1 hj (t6.symm.trans c2)]at nx;exact rE F hS hB h e1 e2 e3 t1 (hm hj) hl (F.X 1) nx
  .rw[ajz hj (t6.symm.trans c2)]at nx;exact lI hS h e1 e2 e3 t1 (hm hj) hl nx
 .rw[ajA (t2.symm.trans c)]at nx;exact nx _ _ _ e1 e2 e3
end
def apg(p:Prog)(hp:Prog.ok p)(hp:pR (d_Prog p [])):Cn yC sP_vrun (v_Prog []) (d_Prog p []) tT:=by
 intro U g;have hl:p.l.length<=maxLen:=hp;have g0:U.i 0=p.ctx/\U.l 1=p.l:=by simp only[dN,varsD,varD,Be,Dt.z.injEq,Dt.l.injEq,and_true,Nat.reduceAdd]at g;exact g
 unfold yC;refine aD (xs:=[.z p.ctx,.l p.l]) (by simp only[E.D,E.I,E.R,g0.1,g0.2]) hl (fun e=> ?_);have e1:U.i 2=(aY p).1/\U.i 3=(aY p).2:=⟨e.1,e.2.1⟩
 clear e;refine⟨fun c0=> ?_,fun c0=> ?_⟩
 rotate_left
 .have h0:¬(aY p).2=0:=by
   simp only[E.B,E.I,e1.2]at c0;exact Ch c0
  show[Dt.l [],.l [],.z (U.i 2),.z (U.i 3)]=[.l (AC p).1,.l (AC p).2.1,.z (AC p).2.2.1,.z (AC p).2.2.2];unfold AC;rw[e1.1,e1.2,aa h0]
 have Aj:(aY p).2=0:=by simp only[E.B,E.I,e1.2]at c0;exact Bs c0
 obtain⟨⟨q1,q2,q3⟩,q4,q5⟩:=cL hl Aj;refine aD (xs:=[]) rfl trivial (fun e=> ?_);have eF:Du U 4=jN:=atX e;clear e;refine⟨RI p,RM,⟨0,0,vini,?_,VI.ini q2,by decide,by unfold AC;rw[ae Aj];rfl⟩,?_⟩
 .have e2:(E.lput (.lrep (.p 64) (.j (.tt ZC) (.zr 171 .nil))) (.p 0) (.j (.tt ZB) (.vs 4 171 .nil))).R U=vini.T:=by
   simp only[E.R,E.L,ary,eF];rfl
  simp only[E.zs,E.D,e2];rfl
 intro U1 A0 _ Bc;obtain⟨last,AY,r,Br,hV,hv,Cl⟩:=Bc;simp only[varsD,varD,Be,Dt.z.injEq,Dt.l.injEq,and_true,Nat.reduceAdd]at Br;obtain⟨d1,d2,d3,d4,d5⟩:=Br;have gl:=kL A0 g0.2;have gc:=kI A0 g0.1;refine⟨fun c1=> ?_,fun c1=> ?_⟩
 ·
  have If:r.w=0:=by simp only[E.B,E.I,d3]at c1;exact Bs c1
  rw[iy If]at Cl;refine⟨fun ds=>∃(n:Nat) (T:LL),ds=[.z n,.l ((List.range n).map fun(k:Nat)=>[AD (gt r.T k 0==1)]),.l ((List.range n).map fun(k:Nat)=>if gt r.T k 0=1 then BI (aq r.T k)else ZM 171 0),.l T]/\n<=p.l.length/\T.length=64/\∀k,n<=k->T[k]? =r.T[k]?,fun ds=>(64-dI ds 0).toNat,⟨0,r.T,by simp only[E.D,E.R,E.I,d4];rfl,Nat.zero_le _,hV.T,fun _ _=>rfl⟩,?_⟩;intro U2 Cf _ Gx;obtain⟨n,T,Br,hn,hT,Jf⟩:=Gx;rw[show varsD U2 180 _=[.z (U2.i 180),.l (U2.l 181),.l (U2.l 182),.l (U2.l 183)]from rfl]at Br ⊢;simp only[Be,Dt.z.injEq,Dt.l.injEq,and_true]at Br;obtain⟨f1,f2,f3,f4⟩:=Br;have gl2:=kL Cf gl;refine⟨fun c2=> ?_,fun c2=> ?_⟩
  rotate_left
  .have K1:n=p.l.length:=by
    simp only[E.B,E.I,E.R,f1,gl2]at c2;have:=Ab c2;omega
   show[Dt.l (U2.l 181),.l (U2.l 182),.z 0,.z 0]=[.l (AC p).1,.l (AC p).2.1,.z (AC p).2.2.1,.z (AC p).2.2.2];rw[<-Cl,f2,f3,K1];rfl
  have K1:n<p.l.length:=by simp only[E.B,E.I,E.R,f1,gl2]at c2;have:=Ah c2;omega
  have hn64:n<64:=Fn;have hs:=Jf n (Nat.le_refl n);have b1:(E.lt (.len (.g 181)) (.p 1073741824)).B U2=ZB:=by simp only[E.B,E.I,E.R,f2,List.length_map,List.length_range];exact dm Fn
  have b2:(E.lt (.len (.g 182)) (.p 1073741824)).B U2=ZB:=by simp only[E.B,E.I,E.R,f3,List.length_map,List.length_range];exact dm Fn
  have eI:(E.f .add .i64 (.w 180) (.p 1)).I U2=((n+1:Nat):Int):=by simp only[E.I,f1];exact avq hn64
  refine⟨fun c3=> ?_,fun _=>⟨fun _=>⟨fun _=>⟨fun c4=>⟨fun _=>⟨fun _=>bc ?_,fun c=> ?_⟩,fun c=> ?_⟩,fun c4=>⟨fun _=>⟨fun _=>bc ?_,fun c=> ?_⟩,fun c=> ?_⟩⟩,fun c=> ?_⟩,fun c=> ?_⟩⟩
  .simp only[E.B,E.I,f1]at c3;have:=Ah c3;omega
  .have h1:gt r.T n 0=1:=by
    simp only[E.B,E.I,E.R,f1,f4,gV hs]at c4;exact Bs c4
   refine⟨⟨n+1,T,?_,K1,hT,fun k hk=>Jf k Fn⟩,?_⟩
   .simp only[E.D];rw[eI];simp only[E.R,E.L,auo,E.I,E.B,f1,f2,f3,f4,dT hs,List.range_succ,List.map_append,List.map_cons,List.map_nil,h1,bm,beq_self_eq_true]
   .show(64-(E.f .add .i64 (.w 180) (.p 1)).I U2).toNat<(64-U2.i 180).toNat;rw[eI,f1];omega
  .rw[b2]at c;cases c
  .rw[b1]at c;cases c
  .have h1:¬gt r.T n 0=1:=by
    simp only[E.B,E.I,E.R,f1,f4,gV hs]at c4;exact Ch c4
   have hb:(gt r.T n 0==1)=ZC:=by simp only[E.B,E.I,E.R,f1,f4,gV hs]at c4;exact c4
   refine⟨⟨n+1,T.set n (1::ZM 171 0),?_,K1,by rw[List.length_set];exact hT,fun k hk=>by rw[pB Fn];exact Jf k Fn⟩,?_⟩
   .have eT:(E.lput (.g 183) (.w 180) (.j (.tt ZB) (.zr 171 .nil))).R U2=T.set n (1::ZM 171 0):=by
     simp only[E.R,E.I,f1,f4,cY];rfl
    have eS:(E.lq (.g 182) (.zr 171 .nil)).R U2=U2.l 182++[ZM 171 0]:=rfl;simp only[E.D,eI,eT,eS,f3,List.range_succ,List.map_append,List.map_cons,List.map_nil,aa h1];simp only[E.R,E.L,E.B,f2,hb]
   .show(64-(E.f .add .i64 (.w 180) (.p 1)).I U2).toNat<(64-U2.i 180).toNat;rw[eI,f1];omega
  .rw[b2]at c;cases c
  .rw[b1]at c;cases c
  .simp only[E.B,E.I,E.R,f1,f4,hT]at c;have:=Ab c;omega
  .simp only[E.B,E.I,f1]at c;have:=Ab c;omega
 have If:r.w≠0:=by simp only[E.B,E.I,d3]at c1;exact Ch c1
 refine⟨fun c2=> ?_,fun c2=> ?_⟩
 .have IG:AY=2000:=by
   simp only[E.B,E.I,d2]at c2;exact Bs c2
  show[Dt.l [],.l [],.z (U1.i 175),.z 112]=[.l (AC p).1,.l (AC p).2.1,.z (AC p).2.2.1,.z (AC p).2.2.2];rw[<-Cl,IG,d1,show(2000-2000:Int).toNat=0 from rfl,lD If]
 have IG:AY<2000:=by simp only[E.B,E.I,d2]at c2;have:=Ch c2;omega
 obtain⟨Oo,k,ES,D3,Gi,UU⟩:=hV.next If;obtain⟨m,hm⟩:∃m,(2000-AY).toNat=m+1:=⟨(2000-AY).toNat-1,by omega⟩
 have Rq:m=(2000-(AY+1)).toNat:=Fn;rw[hm]at Cl;have KU:∀e:Int,(bD p k (aq r.T k))=([],e)->e≠0->AC p=([],[],(k:Int),e):=fun e he h0=>by rw[<-Cl,px If (by rw[ES,he];exact h0),ES,he]
 refine aD [.z r.w] (by simp only[E.D,E.I,d3]) trivial (fun e=> ?_);have F1:RF p AY r k U1:=⟨gl,gc,d2,d3,d4,d5,(show U1.i 180=CO r.w from e.1).trans ES⟩
 clear e;have hx:A2 (ab p.l k)=ZB:=kT hl Aj (Int.natCast_nonneg k) Fn;have hd:=cz hx;refine⟨fun c=> ?_,fun _=>⟨fun _=>⟨fun _=>⟨fun _=>⟨fun _=> ?_,fun c=> ?_⟩,fun c=> ?_⟩,fun c=> ?_⟩,fun c=> ?_⟩⟩
 .simp only[E.B,E.I,F1.i]at c;have:=Ah c;omega
 rotate_left
 .simp only[E.B,E.I,E.R,F1.i,F1.l]at c;have:=Ab c;omega
 .simp only[E.B,E.I,E.R,F1.i,F1.T,UU]at c;cases c
 .simp only[E.B,E.I,E.R,F1.i,F1.T,hV.T]at c;have:=Ab c;omega
 .simp only[E.B,E.I,F1.i]at c;have:=Ab c;omega
 obtain⟨R,hR,hR2⟩:=al6 hx;refine aD (d_Ins (ab p.l k) []) (by rw[auB];simp only[E.R,E.I,F1.l,F1.i];rfl) trivial (fun e=> ?_);have e181:U1.i 181=(R:Int):=by have e:=e;rw[show sP_vrun.F 3=c_vrd.F from rfl,av9,hR]at e;exact e.1
 clear e;refine⟨fun ds=>∃m:Nat,ds=[.z (m:Int)]/\UInv (aq r.T k) R m,fun ds=>(dI ds 0).toNat,⟨R,by simp only[E.D,E.I,e181],.init hR2⟩,?_⟩;intro U2 Cf _ Gx;obtain⟨n,Br,hU⟩:=Gx;rw[show varsD U2 182 [.int .i64]=[.z (U2.i 182)]from rfl]at Br ⊢;simp only[Be,Dt.z.injEq,and_true]at Br;have F2:=F1.ag Cf ST;refine⟨fun c3=> ?_,fun c3=> ?_⟩
 ·
  have hn:0<n:=by simp only[E.B,E.I,Br]at c3;have:=Ah c3;omega
  refine aD [.z (ZG .u64 n)] (by simp only[E.D,E.I,Br]) trivial (fun e=> ?_);have Np:U2.i 183=CO (ZG .u64 n):=e.1;clear e;have hz:=auI hn hU.lt;have cB:(E.eq (.nth (.w 183) (.sg (.g 178) (.w 180) 1 11)) (.p 0)).B U2=((io (aq r.T k)).getD (CO (ZG .u64 n)).toNat 0==0):=by show(((E.sg (.g 178) (.w 180) 1 11).L U2).getD (U2.i 183).toNat 0==0)=_;rw[show(E.sg (.g 178) (.w 180) 1 11).L U2=io (aq (U2.l 178) (U2.i 180))from rfl,F2.T,F2.i,Np]
  refine⟨fun c=> ?_,fun _=>⟨fun _=>⟨fun c4=> ?_,fun c4=> ?_⟩,fun c=> ?_⟩⟩
  .simp only[E.B,E.I,Np]at c;have:=Ah c;omega
  .rw[cB]at c4;have hb:fC (aq r.T k) R=ZB:=hU.bad hn c4;have EN:bD p k (aq r.T k)=([],110):=by
    unfold bD;rw[hR,cY,ae hb]
   show[Dt.l [],.l [],.z (U2.i 180),.z 110]=[.l (AC p).1,.l (AC p).2.1,.z (AC p).2.2.1,.z (AC p).2.2.2];rw[KU 110 EN ST,F2.i]
  .rw[cB]at c4;obtain⟨m2,e1,e2,e3⟩:=hU.next hn c4;refine bc ⟨⟨m2,?_,e2⟩,?_⟩
   .simp only[E.D,E.I,Br,e1]
   .show((E.f .and .i64 (.w 182) (.f .sub .i64 (.w 182) (.p 1))).I U2).toNat<(U2.i 182).toNat;simp only[E.I,Br,e1];omega
  .simp only[E.B,E.I,Np]at c;have:=Ab c;omega
 have hn:n=0:=by simp only[E.B,E.I,Br]at c3;have:=Ab c3;omega
 subst hn;have hu:fC (aq r.T k) R=ZC:=hU.good;have X5:∀U,RF p AY r k U->(E.lt (.get (.g 1) (.w 180) 5) (.p 0)).B U=ZC/\(E.lt (.get (.g 1) (.w 180) 5) (.p 11)).B U=ZB:=fun U F=>by have h5:(E.get (.g 1) (.w 180) 5).I U=(ab p.l k).d:=F.X 5;simp only[E.B];rw[h5];exact⟨ff (by show¬(ab p.l k).d<0;omega),dm (by show(ab p.l k).d<11;omega)⟩
 have X6:(E.lt (.get (.g 1) (.w 180) 6) (.p 0)).B U2=ZC/\(E.lt (.get (.g 1) (.w 180) 6) (.p 11)).B U2=ZB:=by have h6:(E.get (.g 1) (.w 180) 6).I U2=(ab p.l k).s:=F2.X 6;simp only[E.B];rw[h6];exact⟨ff (by show¬(ab p.l k).s<0;omega),dm (by show(ab p.l k).s<11;omega)⟩
 refine⟨fun c=>(by rw[X6.1]at c;cases c),fun _=>⟨fun _=> ?_,fun c=>(by rw[X6.2]at c;cases c)⟩⟩;refine⟨fun ds=>ds=d_Ty (cy (ab p.l k) (aq r.T k)) [],⟨fun c=>bc ?_,fun c=> ?_⟩,?_⟩
 .have hb:(ab p.l k).br=ZB:=by
   simp only[E.B,E.R,E.I,F2.l,F2.i]at c;exact c
  rw[QN,show(E.g 178).R U2=r.T from F2.T,show(E.w 180).I U2=(k:Int)from F2.i,show(E.get (.g 1) (.w 180) 6).I U2=(ab p.l k).s from F2.X 6];unfold cy;rw[ae hb];rfl
 .have hb:¬(ab p.l k).br=ZB:=by
   simp only[E.B,E.R,E.I,F2.l,F2.i]at c;exact fun h=>by rw[show(gt p.l k 4==1)=ZB from h]at c;cases c
  refine aD [.z (ZG .u64 (ab p.l k).imm)] (by
   show[Dt.z (ZG .u64 ((E.get (.g 1) (.w 180) 8).I U2))]=_;rw[F2.X 8];rfl) trivial (fun e=> ?_)
  rw[show sP_vrun.F 6=c_vone.F from rfl,aur]at e;have e1:=(aq6 (ks:=[]) e).1;refine aD (d_Sc (Cb (ZG .u64 (ab p.l k).imm)) []) (by rw[UI,e1];rfl) trivial (fun e=>bc ?_);rw[show sP_vrun.F 15=c_vsca.F from rfl,ajh]at e;rw[auz,xv e];unfold cy;rw[aa hb];rfl
 intro U3 Bd _ Iz;have F3:=F2.ag Bd ST;have hB3:Da U3 183=cy (ab p.l k) (aq r.T k):=alJ (r:=[]) (r':=[]) Iz;clear Iz;refine aD (.z k::d_Ins (ab p.l k) []) (by
  show Dt.z (U3.i 180)::(E.ins (.g 1) (.w 180) .nil).D U3=_;rw[auB,F3.i,show(E.g 1).R U3=p.l from F3.l,show(E.w 180).I U3=(k:Int)from F3.i];rfl) trivial (fun e=> ?_)
 rw[show sP_vrun.F 5=c_itgt.F from rfl,auy]at e;have t1:U3.i 192=(AO k (ab p.l k)).1:=e.1;have t2:U3.b 193=(AO k (ab p.l k)).2:=e.2.1.trans (oE _);clear e
 have Hq:∀s1:Sta,BD p (ab p.l k) (aq r.T k)=(s1,0)->∀U5,RF p AY r k U5->∀w T g:E,w.I U5=((ib k (ab p.l k) s1 (cy (ab p.l k) (aq r.T k))).foldl AQ ((gF k (ab p.l k) s1 (cy (ab p.l k) (aq r.T k))).foldl AQ (jp r))).w->T.R U5=((ib k (ab p.l k) s1 (cy (ab p.l k) (aq r.T k))).foldl AQ ((gF k (ab p.l k) s1 (cy (ab p.l k) (aq r.T k))).foldl AQ (jp r))).T->g.R U5=((ib k (ab p.l k) s1 (cy (ab p.l k) (aq r.T k))).foldl AQ ((gF k (ab p.l k) s1 (cy (ab p.l k) (aq r.T k))).foldl AQ (jp r))).g->
   RI p ((E.cons (.w 180) (.cons (.f .add .i64 (.w 176) (.p 1)) (.cons w (.N T (.N g .nil))))).D U5)/\RM ((E.cons (.w 180) (.cons (.f .add .i64 (.w 176) (.p 1)) (.cons w (.N T (.N g .nil))))).D U5)<RM (varsD U1 175 [.int .i64,.int .i64,.int .u64,.list [],.list []]):=by
  intro s1 OG U5 F5 w T g hw hT hg;have hs:bD p k (aq r.T k)=(gF k (ab p.l k) s1 (cy (ab p.l k) (aq r.T k))++ib k (ab p.l k) s1 (cy (ab p.l k) (aq r.T k)),0):=by unfold bD;rw[hR,cY,hu,OG,aa (by simp),ae rfl]
  have hV3:=VI.puts q3 _ (VI.puts q3 _ Oo (xU hl Aj Gi (s:=s1) (b:=cy (ab p.l k) (aq r.T k)))) (ad2 hl Aj Gi (s:=s1) (b:=cy (ab p.l k) (aq r.T k)));have ev:Ac .add .i64 AY 1=AY+1:=by show IntKind.i64.wrap _=_;rw[aT];omega
  refine⟨⟨k,AY+1,_,?_,hV3,⟨by omega,by omega⟩,?_⟩,?_⟩
  .simp only[E.D,E.I,F5.i,F5.v,hw,hT,hg,ev]
  .rw[<-Rq,<-Cl,nn If (by rw[ES,hs]),ES,hs,List.foldl_append]
  .show(2000-(E.f .add .i64 (.w 176) (.p 1)).I U5).toNat<(2000-U1.i 176).toNat;simp only[E.I,F5.v,d2,ev];omega
 have kx:∀(U:Env),RF p AY r k U->∀z:Int,(E.eq (.get (.g 1) (.w 180) 0) (.p z)).B U=((ab p.l k).k==z):=fun U F z=>by show((E.get (.g 1) (.w 180) 0).I U==z)=_;rw[F.X 0];rfl
 refine⟨fun ds=>ds=[.z (AD (jb (ab p.l k)))],⟨fun c=>bc ?_,fun c=>bc ?_⟩,?_⟩
 .show[Dt.z (AD ZC)]=_;unfold jb;rw[show((ab p.l k).k==4)=ZB from(kx U3 F3 4).symm.trans c];rfl
 .show[Dt.z (AD (!((E.get (.g 1) (.w 180) 0).I U3==6)))]=_;rw[F3.X 0];unfold jb;rw[show((ab p.l k).k==4)=ZC from(kx U3 F3 4).symm.trans c];rfl
 intro U4 MN _ PX;have f4:U4.b 194=jb (ab p.l k):=nW (Dt.z.inj (List.cons.inj PX).1);clear PX;have F4:=F3.ag MN ST;have hB4:Da U4 183=cy (ab p.l k) (aq r.T k):=(TC MN ST).trans hB3;have EQ:(E.g 178).R U4=r.T:=F4.T;have ER:(E.w 180).I U4=(k:Int):=F4.i;have FZ:(E.g 1).R U4=p.l:=F4.l;have h5:(E.get (.g 1) (.w 180) 5).I U4=(ab p.l k).d:=F4.X 5;have h6:(E.get (.g 1) (.w 180) 6).I U4=(ab p.l k).s:=F4.X 6;have My:∀(s1:Sta) (e:Int),BD p (ab p.l k) (aq r.T k)=(s1,e)->e≠0->bD p k (aq r.T k)=([],e):=fun s1 e h h0=>by unfold bD;rw[hR,cY,hu,h,aa (by simp),aa h0]
 have z3:aR (ab p.l k).sz=ZB->(E.F .i64 (.get (.g 1) (.w 180) 3)).I U4=(ab p.l k).sz:=fun hz=>by show IntKind.i64.wrap ((E.get (.g 1) (.w 180) 3).I U4)=_;rw[F4.X 3];exact aoZ hz
 have wz:∀{t:Ty},aG p.ctx t (ab p.l k).off (ab p.l k).sz=ZB->aR (ab p.l k).sz=ZB:=fun {t} h=>by unfold aG at h;rw[ne,ne]at h;exact h.2.1
 refine⟨fun ds=>∃s1,ds=d_Sta s1 []/\BD p (ab p.l k) (aq r.T k)=(s1,0),?_,?_⟩
 .refine⟨fun c0=> ?_,fun c0=>⟨fun c1=> ?_,fun c1=>⟨fun c2=> ?_,fun c2=>⟨fun c5=> ?_,fun c5=> ?_⟩⟩⟩⟩
  ·
   have hk:(ab p.l k).k=0:=Bs ((kx U4 F4 0).symm.trans c0);refine⟨fun c=>Yv,fun _=>⟨fun _=> ?_,fun c=>Yw⟩⟩;refine aD (.l (EV (ab p.l k))::d_Ty (Ao (aq r.T k) (ab p.l k).d) (d_Ty (cy (ab p.l k) (aq r.T k)) [])) (by
    show Dt.l ((E.lq .ln (.ins (.g 1) (.w 180) .nil)).R U4)::(E.tg (.get (.g 1) (.w 180) 5) (.g 178) (.w 180) 1 9 (.vs 183 9 .nil)).D U4=_;rw[arx,QN,auz,hB4,EQ,ER,h5,FZ];rfl) rfl (fun e=> ?_)
   rw[show sP_vrun.F 8=c_valu.F from rfl,auv]at e;have eT:=xv e;refine bc ⟨_,by rw[arB,EQ,ER,h5,eT];rfl,?_⟩;unfold BD;rw[ae hk]
  ·
   have KX:(ab p.l k).k≠0:=Ch ((kx U4 F4 0).symm.trans c0);have hk:(ab p.l k).k=1:=Bs ((kx U4 F4 1).symm.trans c1);refine aD (.z p.ctx::.l p.l::.l (EV (ab p.l k))::d_Ty (Ao (aq r.T k) (ab p.l k).s) []) (by
    show Dt.z (U4.i 0)::Dt.l (U4.l 1)::Dt.l ((E.lq .ln (.ins (.g 1) (.w 180) .nil)).R U4)::(E.tg (.get (.g 1) (.w 180) 6) (.g 178) (.w 180) 1 9 .nil).D U4=_;rw[arx,QN,EQ,ER,h6,FZ,F4.c,F4.l];rfl) ⟨rfl,hl⟩ (fun e=> ?_)
   rw[show sP_vrun.F 9=c_vacc.F from rfl,anv]at e;have a1:U4.i 195=Il (Ao (aq r.T k) (ab p.l k).s) (ab p.l k):=e.1;have a2:U4.i 196=Ik (Ao (aq r.T k) (ab p.l k).s) (ab p.l k):=e.2.1;have a3:U4.b 197=aG p.ctx (Ao (aq r.T k) (ab p.l k).s) (ab p.l k).off (ab p.l k).sz:=e.2.2.1.trans (oE _);clear e;refine⟨fun cw=> ?_,fun cw=> ?_⟩
   .have hw:=a3.symm.trans cw;have hz:=z3 (wz hw);refine aD [.z (ab p.l k).sz] (by
     show[Dt.z ((E.F .i64 (.get (.g 1) (.w 180) 3)).I U4)]=_;rw[hz]) trivial (fun e=> ?_)
    rw[show sP_vrun.F 10=c_vby.F from rfl,awa]at e;have e1:=(aq6 (ks:=[]) e).1;refine aD (d_Sc (Db (ab p.l k).sz) []) (by rw[UI,e1];rfl) trivial (fun e=> ?_);rw[show sP_vrun.F 15=c_vsca.F from rfl,ajh]at e;have eT:=xv e;clear e;refine⟨fun c=>Yv,fun _=>⟨fun _=> ?_,fun c=>Yw⟩⟩;have QQ:(E.eq (.nth (.get (.g 1) (.w 180) 6) (.sg (.g 178) (.w 180) 1 11)) (.p 3)).B U4=((Ao (aq r.T k) (ab p.l k).s).k==3):=by show(((E.sg (.g 178) (.w 180) 1 11).L U4).getD ((E.get (.g 1) (.w 180) 6).I U4).toNat 0==3)=_;rw[show(E.sg (.g 178) (.w 180) 1 11).L U4=io (aq (U4.l 178) (U4.i 180))from rfl,F4.T,F4.i,h6];rfl
    refine⟨fun c3=> ?_,fun c3=> ?_⟩
    .have h3:(Ao (aq r.T k) (ab p.l k).s).k=3:=Bs (QQ.symm.trans c3);refine aD (d_Sta (BX (aq r.T k) (ab p.l k).d (DQ (Db (ab p.l k).sz))) [.z (Il (Ao (aq r.T k) (ab p.l k).s) (ab p.l k)),.z (Ik (Ao (aq r.T k) (ab p.l k).s) (ab p.l k)),.z (ab p.l k).sz]) (by
      rw[arB,EQ,ER,h5,eT];show d_Sta _ [Dt.z (U4.i 195),.z (U4.i 196),.z ((E.F .i64 (.get (.g 1) (.w 180) 3)).I U4)]=_;rw[hz,a1,a2]) trivial (fun e=> ?_)
     rw[show sP_vrun.F 12=c_tload.F from rfl,arz]at e;have eL:=atU e;have eE:U4.i 222=_:=atT e;clear e;have hv:BD p (ab p.l k) (aq r.T k)=(BX (BX (aq r.T k) (ab p.l k).d (DQ (Db (ab p.l k).sz))) (ab p.l k).d (Da U4 213),U4.i 222):=by unfold BD;rw[aa KX,ae hk,ae hw];unfold Sx;rw[ae h3,eL,eE]
     refine⟨fun c9=> ?_,fun c9=> ?_⟩
     .have h0:U4.i 222=0:=Bs c9;refine bc ⟨_,by rw[auA,EQ,ER,h5,eT];rfl,?_⟩;rw[hv,h0]
     .have h0:U4.i 222≠0:=Ch c9;show[Dt.l [],.l [],.z (U4.i 180),.z (U4.i 222)]=[.l (AC p).1,.l (AC p).2.1,.z (AC p).2.2.1,.z (AC p).2.2.2];rw[KU _ (My _ _ hv h0) h0,F4.i]
    .have h3:¬(Ao (aq r.T k) (ab p.l k).s).k=3:=Ch (QQ.symm.trans c3);refine bc ⟨_,by rw[arB,EQ,ER,h5,eT];rfl,?_⟩;unfold BD;rw[aa KX,ae hk,ae hw];unfold Sx;rw[aa h3]
   .have hw:¬aG p.ctx (Ao (aq r.T k) (ab p.l k).s) (ab p.l k).off (ab p.l k).sz=ZB:=by
     rw[a3.symm.trans cw];simp
    show[Dt.l [],.l [],.z (U4.i 180),.z 111]=[.l (AC p).1,.l (AC p).2.1,.z (AC p).2.2.1,.z (AC p).2.2.2];rw[KU 111 (My (aq r.T k) 111 (by unfold BD;rw[aa KX,ae hk,aa hw]) ST) ST,F4.i]
  ·
   have KX:(ab p.l k).k≠0:=Ch ((kx U4 F4 0).symm.trans c0);have ES:(ab p.l k).k≠1:=Ch ((kx U4 F4 1).symm.trans c1);have hk:(ab p.l k).k=2:=Bs ((kx U4 F4 2).symm.trans c2);refine⟨fun c=>Yv,fun _=>⟨fun _=> ?_,fun c=>Yw⟩⟩;refine aD (.z p.ctx::.l p.l::.l (EV (ab p.l k))::d_Ty (Ao (aq r.T k) (ab p.l k).d) []) (by
    show Dt.z (U4.i 0)::Dt.l (U4.l 1)::Dt.l ((E.lq .ln (.ins (.g 1) (.w 180) .nil)).R U4)::(E.tg (.get (.g 1) (.w 180) 5) (.g 178) (.w 180) 1 9 .nil).D U4=_;rw[arx,QN,EQ,ER,h5,FZ,F4.c,F4.l];rfl) ⟨rfl,hl⟩ (fun e=> ?_)
   rw[show sP_vrun.F 9=c_vacc.F from rfl,anv]at e;have a1:U4.i 195=Il (Ao (aq r.T k) (ab p.l k).d) (ab p.l k):=e.1;have a2:U4.i 196=Ik (Ao (aq r.T k) (ab p.l k).d) (ab p.l k):=e.2.1;have a3:U4.b 197=aG p.ctx (Ao (aq r.T k) (ab p.l k).d) (ab p.l k).off (ab p.l k).sz:=e.2.2.1.trans (oE _);clear e;refine⟨fun cw=> ?_,fun cw=> ?_⟩
   .have hw:=a3.symm.trans cw;have hz:=z3 (wz hw);have QQ:(E.eq (.nth (.get (.g 1) (.w 180) 5) (.sg (.g 178) (.w 180) 1 11)) (.p 3)).B U4=((Ao (aq r.T k) (ab p.l k).d).k==3):=by
     show(((E.sg (.g 178) (.w 180) 1 11).L U4).getD ((E.get (.g 1) (.w 180) 5).I U4).toNat 0==3)=_;rw[show(E.sg (.g 178) (.w 180) 1 11).L U4=io (aq (U4.l 178) (U4.i 180))from rfl,F4.T,F4.i,h5];rfl
    refine⟨fun c3=> ?_,fun c3=> ?_⟩
    .have h3:(Ao (aq r.T k) (ab p.l k).d).k=3:=Bs (QQ.symm.trans c3);refine aD (d_Sta (aq r.T k) (.z (Il (Ao (aq r.T k) (ab p.l k).d) (ab p.l k))::.z (Ik (Ao (aq r.T k) (ab p.l k).d) (ab p.l k))::.z (ab p.l k).sz::d_Ty (Ao (aq r.T k) (ab p.l k).s) [])) (by
      rw[UJ,EQ,ER];show d_Sta _ (Dt.z (U4.i 195)::.z (U4.i 196)::.z ((E.F .i64 (.get (.g 1) (.w 180) 3)).I U4)::(E.tg (.get (.g 1) (.w 180) 6) (.g 178) (.w 180) 1 9 .nil).D U4)=_;rw[QN,hz,a1,a2,EQ,ER,h6];rfl) trivial (fun e=> ?_)
     rw[show sP_vrun.F 13=c_tstore.F from rfl,alX]at e;have eL:=UD e;have eE:U4.i 369=_:=atV e;clear e;have hv:BD p (ab p.l k) (aq r.T k)=(Du U4 198,U4.i 369):=by unfold BD;rw[aa KX,aa ES,ae hk,ae hw];unfold SA;rw[ae h3,eL,eE]
     refine⟨fun c9=> ?_,fun c9=> ?_⟩
     .have h0:U4.i 369=0:=Bs c9;refine bc ⟨_,by rw[arA];rfl,?_⟩;rw[hv,h0]
     .have h0:U4.i 369≠0:=Ch c9;show[Dt.l [],.l [],.z (U4.i 180),.z (U4.i 369)]=[.l (AC p).1,.l (AC p).2.1,.z (AC p).2.2.1,.z (AC p).2.2.2];rw[KU _ (My _ _ hv h0) h0,F4.i]
    .have h3:¬(Ao (aq r.T k) (ab p.l k).d).k=3:=Ch (QQ.symm.trans c3);refine bc ⟨_,by rw[UJ,EQ,ER];rfl,?_⟩;unfold BD;rw[aa KX,aa ES,ae hk,ae hw];unfold SA;rw[aa h3]
   .have hw:¬aG p.ctx (Ao (aq r.T k) (ab p.l k).d) (ab p.l k).off (ab p.l k).sz=ZB:=by
     rw[a3.symm.trans cw];simp
    show[Dt.l [],.l [],.z (U4.i 180),.z 111]=[.l (AC p).1,.l (AC p).2.1,.z (AC p).2.2.1,.z (AC p).2.2.2];rw[KU 111 (My (aq r.T k) 111 (by unfold BD;rw[aa KX,aa ES,ae hk,aa hw]) ST) ST,F4.i]
  ·
   have hk:(ab p.l k).k=5:=Bs ((kx U4 F4 5).symm.trans c5);refine aD (xs:=[]) rfl trivial (fun e=> ?_);have eT:Da U4 195=tscal:=xv e;refine bc ⟨_,by rw[auD,EQ,ER,eT],?_⟩;unfold BD;rw[aa Fn,aa Fn,aa Fn,ae hk];rfl
  .have KX:(ab p.l k).k≠0:=Ch ((kx U4 F4 0).symm.trans c0);have ES:(ab p.l k).k≠1:=Ch ((kx U4 F4 1).symm.trans c1);have D3:(ab p.l k).k≠2:=Ch ((kx U4 F4 2).symm.trans c2);have hk5:(ab p.l k).k≠5:=Ch ((kx U4 F4 5).symm.trans c5);refine bc ⟨_,by rw[UJ,EQ,ER];rfl,?_⟩;unfold BD;rw[aa KX,aa ES,aa D3,aa hk5]
 intro U5 L4 _ Rh;obtain⟨s1,Br,OG⟩:=Rh;have hS5:Du U5 195=s1:=aiF (r:=[]) (r':=[]) Br;clear Br;have F5:=F4.ag L4 ST;have hB5:Da U5 183=cy (ab p.l k) (aq r.T k):=(TC L4 ST).trans hB4;refine⟨fun c=>(by rw[(X5 U5 F5).1]at c;cases c),fun _=>⟨fun _=> ?_,fun c=>(by rw[(X5 U5 F5).2]at c;cases c)⟩⟩;have cae:(E.eq (.nth (.get (.g 1) (.w 180) 5) (.sv 195 11)) (.p 1)).B U5=((Ao s1 (ab p.l k).d).k==1):=by show(((E.sv 195 11).L U5).getD ((E.get (.g 1) (.w 180) 5).I U5).toNat 0==1)=_;rw[show(E.sv 195 11).L U5=io (Du U5 195)from rfl,hS5,F5.X 5];rfl
 refine⟨fun ds=>ds=[.z (AD (iw (ab p.l k) s1 (cy (ab p.l k) (aq r.T k))))],⟨fun c3=>⟨fun ca=>bc ?_,fun ca=>bc ?_⟩,fun c3=>bc ?_⟩,?_⟩
 .show[Dt.z (AD ((Da U5 183).k==1))]=_;rw[hB5];unfold iw;rw[show((ab p.l k).k==3)=ZB from(kx U5 F5 3).symm.trans c3,cae.symm.trans ca];rfl
 .show[Dt.z (AD ZC)]=_;unfold iw;rw[cae.symm.trans ca,av,au]
 .show[Dt.z (AD ZC)]=_;unfold iw;rw[show((ab p.l k).k==3)=ZC from(kx U5 F5 3).symm.trans c3];rfl
 intro U6 Lw _ PY;have q6:U6.b 366=iw (ab p.l k) s1 (cy (ab p.l k) (aq r.T k)):=nW (Dt.z.inj (List.cons.inj PY).1);clear PY;have F6:=F5.ag Lw ST;have hS6:=(aeY Lw ST).trans hS5;have hB6:Da U6 183=cy (ab p.l k) (aq r.T k):=(TC Lw ST).trans hB5;have f6:=(Lw 194 ST).2.1.symm.trans ((kB L4 f4));have t16:=(Lw 192 ST).1.symm.trans ((L4 192 ST).1.symm.trans ((kI MN t1)));have t26:=(Lw 193 ST).2.1.symm.trans ((L4 193 ST).2.1.symm.trans ((kB MN t2)));have w6:(E.f .and .u64 (.w 177) (.f .sub .u64 (.w 177) (.p 1))).I U6=(jp r).w:=by simp only[E.I,F6.w];rfl
 have n6:(E.f .add .i64 (.w 180) (.p 1)).I U6=Ac .add .i64 (k:Int) 1:=by simp only[E.I,F6.i]
 have on:jb (ab p.l k)=ZB->0<=Ac .add .i64 (k:Int) 1/\Ac .add .i64 (k:Int) 1<(p.l.length:Int):=fun hf=>by obtain⟨k4,k6⟩:=uZ hf;obtain⟨e1,e2⟩:=ass hl Aj Gi k4 k6;rw[e1];omega
 refine aD [.z (ab p.l k).op] (by
  show[Dt.z ((E.get (.g 1) (.w 180) 1).I U6)]=_;rw[F6.X 1];rfl) trivial (fun e=> ?_)
 have b7:U6.i 367=iu (ab p.l k).op:=e.1;have b8:U6.b 368=gD (ab p.l k).op:=e.2.1.trans (oE _);clear e;refine⟨fun ds=>∃r1:VR,ds=[.z r1.w,.l r1.T,.l r1.g]/\r1=(gF k (ab p.l k) s1 (cy (ab p.l k) (aq r.T k))).foldl AQ (jp r),?_,?_⟩
 .refine ad5 (kk:=fun w T g=>.next 6 (.cons w (.N T (.N g .nil)))) F6 hS6 hB6 Oo w6 F6.T F6.g n6 on q3 f6 q6 b7 b8 (fun w' T' g' h1 h2 h3=>bc ⟨_,?_,rfl⟩);simp only[E.D,h1,h2,h3]
 intro U7 Lx _ Ri;obtain⟨r1,Br,Ht⟩:=Ri;have hV1:VI p r1:=by rw[Ht];exact VI.puts q3 _ Oo (xU hl Aj Gi)
 rw[show varsD U7 369 _=[.z (U7.i 369),.l (U7.l 370),.l (U7.l 371)]from rfl]at Br;simp only[Be,Dt.z.injEq,Dt.l.injEq,and_true]at Br;have F7:=F6.ag Lx ST;refine ad3 (kk:=fun w T g=>.next 0 (.cons (.w 180) (.cons (.f .add .i64 (.w 176) (.p 1)) (.cons w (.N T (.N g .nil)))))) F7 ((aeY Lx ST).trans hS6) ((TC Lx ST).trans hB6) hV1 Br.1 Br.2.1 Br.2.2 ((kI Lx t16)) ((kB Lx t26)) (arP hl Aj Gi) q3 ((kB Lx q6)) (fun w' T' g' h1 h2 h3=> ?_);rw[Ht]at h1 h2 h3;exact aho ST (bc (Hq s1 OG U7 F7 w' T' g' h1 h2 h3))
def agE{sp:Spec}{key:Nat}(hF:sp.F key=tT)(hP:sp.pre key=pR)(hH:∀w,sp.hw w->Jr w:=by exact fun _ h=>h):SmOk Tryz.prog sp (tS key):=TJ (s:=tS key) (hW:=hH) hF hP (by kernel_rfl) aej (EJ (alg rfl rfl)<|EJ (ak7 rfl rfl)<|EJ (agF rfl)<|EJ (avb rfl rfl)<|EJ (auV rfl)<|EJ (am3 rfl rfl)<|EJ (TP rfl rfl)<|EJ (atx rfl rfl)<|EJ (as8 rfl rfl)<|EJ (as9 rfl rfl)<|EJ (aqt rfl rfl)<|EJ (qu rfl rfl)<|EJ (aqx rfl rfl)<|EJ (ak4 rfl rfl)<|EJ (as3 rfl rfl)<|EJ (as0 rfl rfl)<|EJ (ak5 rfl rfl)<|EJ (aqw rfl rfl) Vn) func6 (Gw func15 (Gw func41 (Gw func42 EZ))) apn (.inr (.inl ⟨(fun xs h L hL=>by unfold pR at h;split at h<;>first|exact h.elim|(simp at hL;subst hL;exact h)),rfl⟩)) (gX fun p gp=>fun hp=>apg p gp hp)
end Go.Proofs.YtgolejfhoefeaaaGreatDoor
