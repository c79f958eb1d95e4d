import Derived.Test.YtgolejfhoefeaabGreatDoorAiZ
import Derived.Test.YtgolejfhoefeaabGreatDoorSdC
import Derived.Test.YtgolejfhoefeaabGreatDoorProg
import Derived.Laws.Externs
set_option maxRecDepth 100000
set_option maxHeartbeats 8000000
set_option linter.defProp false
set_option linter.unusedVariables false
set_option linter.unusedSimpArgs false
namespace Go.Proofs.YtgolejfhoefeaabGreatDoor
open Bool renaming true->ZB,false->ZC
open Option renaming none->ZD
open Go.IntKind renaming wrap->ZG
open List renaming replicate->YK
open Go.Proofs.Tryz
open Go.RowKit Go.ChangeShapes Go.WideShapes
def afa:List (Nat×TI):=[(2,DA),
 (3,C1),
 (4,EM),
 (22,vT),
 (24,vS),
 (29,asP),
 (30,asO),
 (32,asN),
 (33,OJ),
 (39,hZ),
 (41,rK),
 (43,hJ),
 (53,⟨ZC,1,[.np],[],ZD,ZD,ZC,ZC,ZD,8,ZC,ZD,ZC,1⟩),
 (54,⟨ZB,64,[.np,.np,.np,.np,.np,.np,.np,.np,.np,.np,.np,.np,.np,.np,.np,.np,.np,.np,.np,.np,.np,.np,.np,.np,.np,.np,.np,.np,.np,.np,.np,.np,.np,.np,.np,.np,.np,.np,.np,.np,.np,.np,.np,.np,.np,.np,.np,.np,.np,.np,.np,.np,.np,.np,.np,.np,.np,.np,.np,.np,.np,.np,.np,.np],[],some (64,53),ZD,ZC,ZC,ZD,512,ZC,ZD,ZC,0⟩),
 (55,⟨ZB,64,(zN 64 2222222222222222222222222222222222222222222222222222222222222222),[],some (64,3),ZD,ZC,ZC,ZD,512,ZC,ZD,ZC,0⟩),
 (57,lm),
 (59,oQ),
 (61,iM),
 (63,yL),
 (64,OI),
 (65,OH),
 (67,aaS),
 (69,⟨ZB,1,[.int .u64 (.p 0)],[],some (1,43),ZD,ZC,ZC,ZD,8,ZC,ZD,ZC,0⟩),
 (77,⟨ZB,172,(zN 172 2211221102211221102211221102211221102211221102211221102211221102211221102211221102211221102211221102211221102211221102211221102211221102211221102211221102211221102211221102),[(0,3),(1,67)],ZD,ZD,ZC,ZC,ZD,1376,ZC,ZD,ZC,0⟩),
 (110,Rz),
 (111,⟨ZC,1,[.np],[],ZD,ZD,ZC,ZC,ZD,8,ZC,ZD,ZC,1⟩),
 (122,⟨ZC,1,[.nsl],[],ZD,ZD,ZC,ZC,some 63,24,ZC,ZD,ZC,0⟩),
 (125,⟨ZC,1,[.nf],[],ZD,ZD,ZC,ZC,ZD,8,ZB,ZD,ZC,0⟩)]
def ae3:∀t i,(t,i)∈afa->TIok Tryz.prog t i:=bK (Ed (z:=lR) ⟨lb,ij⟩<|Ed (z:=FC) ⟨Mu,qW⟩<|Ed (z:=D5) ⟨Mr,qV⟩<|Ed (z:=OF) ⟨aoa,aiT⟩ Ch) Ch (by kernel_rfl)
def zq(key:Nat):Sm:=⟨6,key,[.agg kProg],[.agg [.sl [ZD] 4,.sl Ih 67],.one (.int .i64),.one (.int .i64)],ZB⟩
def aqa(p:Prog):List Dt:=[.l (AK p).1,.l (AK p).2.1,.z ((AK p).2.2.1),.z ((AK p).2.2.2)]
def zu:List Dt->List Dt
 |[.z x0,.l x1]=>aqa ⟨x0,x1⟩
 |_=>[]
def zh:Tr:=
(.call 0 [.int .i64,.int .i64] (.cons (.w 0) (.N (.g 1) .nil)) 2
(.br (.eq (.w 3) (.p 0))
(.call 1 (kSta) .nil 4
(.loop 0 175 [.int .i64,.int .i64,.int .u64,.list NP,.list [some .i64]] (.zs [0,0,1] (.N (.lput (.lrep (.p 64) (.j (.tt ZC) (.zr 171 .nil))) (.p 0) (.j (.tt ZB) (.vs 4 171 .nil))) (.N (.lrep (.p 64) (.cons (.p 0) .nil)) .nil)))
(.br (.eq (.w 177) (.p 0))
(.loop 1 180 [.int .i64,.list [ZD],.list Ih,.list NP] (.cons (.p 0) (.N .ln (.N .ln (.N (.g 178) .nil))))
(.br (.lt (.w 180) (.len (.g 1)))
(.br (.lt (.w 180) (.p 0))
.panic
(.br (.lt (.w 180) (.p 64))
(.br (.lt (.w 180) (.len (.g 183)))
(.br (.getb (.g 183) (.w 180) 0)
(.br (.lt (.len (.g 181)) (.p 1073741824))
(.br (.lt (.len (.g 182)) (.p 1073741824))
(.next 1 (.cons (.f .add .i64 (.w 180) (.p 1)) (.N (.lq (.g 181) (.j (.tt ZB) .nil)) (.N (.lq (.g 182) (.gs (.g 183) (.w 180) 1 171 .nil)) (.N (.g 183) .nil)))))
.panic)
.panic)
(.br (.lt (.len (.g 181)) (.p 1073741824))
(.br (.lt (.len (.g 182)) (.p 1073741824))
(.next 1 (.cons (.f .add .i64 (.w 180) (.p 1)) (.N (.lq (.g 181) (.j (.tt ZC) .nil)) (.N (.lq (.g 182) (.zr 171 .nil)) (.N (.lput (.g 183) (.w 180) (.j (.tt ZB) (.zr 171 .nil))) .nil)))))
.panic)
.panic))
(.stuck 270))
.panic))
(.u (.N (.g 181) (.N (.g 182) (.cons (.p 0) (.cons (.p 0) .nil)))))))
(.br (.eq (.w 176) (.p 2000))
(.u (.N .ln (.N .ln (.cons (.w 175) (.cons (.p 112) .nil)))))
(.call 2 [.int .i64] (.cons (.w 177) .nil) 180
(.br (.lt (.w 180) (.p 0))
.panic
(.br (.lt (.w 180) (.p 64))
(.br (.lt (.w 180) (.len (.g 178)))
(.br (.getb (.g 178) (.w 180) 0)
(.br (.lt (.w 180) (.len (.g 1)))
(.call 3 [.int .i64] (.ins (.g 1) (.w 180) .nil) 181
(.loop 1 182 [.int .i64] (.cons (.w 181) .nil)
(.br (.lt (.p 0) (.w 182))
(.call 4 [.int .i64] (.cons (.F .u64 (.w 182)) .nil) 183
(.br (.lt (.w 183) (.p 0))
.panic
(.br (.lt (.w 183) (.p 11))
(.br (.eq (.nth (.w 183) (.sg (.g 178) (.w 180) 1 11)) (.p 0))
(.u (.N .ln (.N .ln (.cons (.w 180) (.cons (.p 110) .nil)))))
(.next 1 (.cons (.f .and .i64 (.w 182) (.f .sub .i64 (.w 182) (.p 1))) .nil)))
.panic)))
(.br (.lt (.get (.g 1) (.w 180) 6) (.p 0))
.panic
(.br (.lt (.get (.g 1) (.w 180) 6) (.p 11))
(.cut 2 183 [.int .i8,.int .u64,.int .u64,.int .i64,.int .i64,.int .u64,.int .u64,.int .i64,.int .i64]
(.br (.getb (.g 1) (.w 180) 4)
(.next 2 (.tg (.get (.g 1) (.w 180) 6) (.g 178) (.w 180) 1 9 .nil))
(.call 6 (kSc) (.cons (.F .u64 (.get (.g 1) (.w 180) 8)) .nil) 183
(.call 15 (kTy) (.vs 183 6 .nil) 189
(.next 2 (.vs 189 9 .nil)))))
(.call 5 [.int .i64,.bool] (.cons (.w 180) (.ins (.g 1) (.w 180) .nil)) 192
(.cut 3 194 [.bool]
(.br (.eq (.get (.g 1) (.w 180) 0) (.p 4))
(.next 3 (.j (.tt ZC) .nil))
(.next 3 (.j (.not (.eq (.get (.g 1) (.w 180) 0) (.p 6))) .nil)))
(.cut 4 195 [.int .i8,.int .u64,.int .u64,.int .i64,.int .i64,.int .u64,.int .u64,.int .i64,.int .i64,.int .i8,.int .u64,.int .u64,.int .i64,.int .i64,.int .u64,.int .u64,.int .i64,.int .i64,.int .i8,.int .u64,.int .u64,.int .i64,.int .i64,.int .u64,.int .u64,.int .i64,.int .i64,.int .i8,.int .u64,.int .u64,.int .i64,.int .i64,.int .u64,.int .u64,.int .i64,.int .i64,.int .i8,.int .u64,.int .u64,.int .i64,.int .i64,.int .u64,.int .u64,.int .i64,.int .i64,.int .i8,.int .u64,.int .u64,.int .i64,.int .i64,.int .u64,.int .u64,.int .i64,.int .i64,.int .i8,.int .u64,.int .u64,.int .i64,.int .i64,.int .u64,.int .u64,.int .i64,.int .i64,.int .i8,.int .u64,.int .u64,.int .i64,.int .i64,.int .u64,.int .u64,.int .i64,.int .i64,.int .i8,.int .u64,.int .u64,.int .i64,.int .i64,.int .u64,.int .u64,.int .i64,.int .i64,.int .i8,.int .u64,.int .u64,.int .i64,.int .i64,.int .u64,.int .u64,.int .i64,.int .i64,.int .i8,.int .u64,.int .u64,.int .i64,.int .i64,.int .u64,.int .u64,.int .i64,.int .i64,.int .i8,.int .u64,.int .u64,.int .i64,.int .i64,.int .u64,.int .u64,.int .i64,.int .i64,.int .i8,.int .u64,.int .u64,.int .i64,.int .i64,.int .u64,.int .u64,.int .i64,.int .i64,.int .i8,.int .u64,.int .u64,.int .i64,.int .i64,.int .u64,.int .u64,.int .i64,.int .i64,.int .i8,.int .u64,.int .u64,.int .i64,.int .i64,.int .u64,.int .u64,.int .i64,.int .i64,.int .i8,.int .u64,.int .u64,.int .i64,.int .i64,.int .u64,.int .u64,.int .i64,.int .i64,.int .i8,.int .u64,.int .u64,.int .i64,.int .i64,.int .u64,.int .u64,.int .i64,.int .i64,.int .i8,.int .u64,.int .u64,.int .i64,.int .i64,.int .u64,.int .u64,.int .i64,.int .i64,.int .i8,.int .u64,.int .u64,.int .i64,.int .i64,.int .u64,.int .u64,.int .i64,.int .i64]
(.br (.eq (.get (.g 1) (.w 180) 0) (.p 0))
(.br (.lt (.get (.g 1) (.w 180) 5) (.p 0))
.panic
(.br (.lt (.get (.g 1) (.w 180) 5) (.p 11))
(.call 8 (kTy) (.N (.lq .ln (.ins (.g 1) (.w 180) .nil)) (.tg (.get (.g 1) (.w 180) 5) (.g 178) (.w 180) 1 9 (.vs 183 9 .nil))) 195
(.next 4 (.rg (.get (.g 1) (.w 180) 5) (.vs 195 9 .nil) (.gs (.g 178) (.w 180) 1 99 .nil) (.gs (.g 178) (.w 180) 100 72 .nil))))
.panic))
(.br (.eq (.get (.g 1) (.w 180) 0) (.p 1))
(.call 9 [.int .i64,.int .i64,.bool] (.cons (.w 0) (.N (.g 1) (.N (.lq .ln (.ins (.g 1) (.w 180) .nil)) (.tg (.get (.g 1) (.w 180) 6) (.g 178) (.w 180) 1 9 .nil)))) 195
(.br (.s 197)
(.call 10 (kSc) (.cons (.F .i64 (.get (.g 1) (.w 180) 3)) .nil) 198
(.call 15 (kTy) (.vs 198 6 .nil) 204
(.br (.lt (.get (.g 1) (.w 180) 5) (.p 0))
.panic
(.br (.lt (.get (.g 1) (.w 180) 5) (.p 11))
(.br (.eq (.nth (.get (.g 1) (.w 180) 6) (.sg (.g 178) (.w 180) 1 11)) (.p 3))
(.call 12 (kTy++[.int .i64]) (.rg (.get (.g 1) (.w 180) 5) (.vs 204 9 .nil) (.gs (.g 178) (.w 180) 1 99 .nil) (.gs (.g 178) (.w 180) 100 72 (.vs 195 2 (.cons (.F .i64 (.get (.g 1) (.w 180) 3)) .nil)))) 213
(.br (.eq (.w 222) (.p 0))
(.next 4 (.rg (.get (.g 1) (.w 180) 5) (.vs 213 9 .nil) (.rg (.get (.g 1) (.w 180) 5) (.vs 204 9 .nil) (.gs (.g 178) (.w 180) 1 99 .nil) .nil) (.gs (.g 178) (.w 180) 100 72 .nil)))
(.u (.N .ln (.N .ln (.cons (.w 180) (.cons (.w 222) .nil)))))))
(.next 4 (.rg (.get (.g 1) (.w 180) 5) (.vs 204 9 .nil) (.gs (.g 178) (.w 180) 1 99 .nil) (.gs (.g 178) (.w 180) 100 72 .nil))))
.panic))))
(.u (.N .ln (.N .ln (.cons (.w 180) (.cons (.p 111) .nil)))))))
(.br (.eq (.get (.g 1) (.w 180) 0) (.p 2))
(.br (.lt (.get (.g 1) (.w 180) 5) (.p 0))
.panic
(.br (.lt (.get (.g 1) (.w 180) 5) (.p 11))
(.call 9 [.int .i64,.int .i64,.bool] (.cons (.w 0) (.N (.g 1) (.N (.lq .ln (.ins (.g 1) (.w 180) .nil)) (.tg (.get (.g 1) (.w 180) 5) (.g 178) (.w 180) 1 9 .nil)))) 195
(.br (.s 197)
(.br (.eq (.nth (.get (.g 1) (.w 180) 5) (.sg (.g 178) (.w 180) 1 11)) (.p 3))
(.call 13 (kSta++[.int .i64]) (.gs (.g 178) (.w 180) 1 171 (.vs 195 2 (.cons (.F .i64 (.get (.g 1) (.w 180) 3)) (.tg (.get (.g 1) (.w 180) 6) (.g 178) (.w 180) 1 9 .nil)))) 198
(.br (.eq (.w 369) (.p 0))
(.next 4 (.vs 198 171 .nil))
(.u (.N .ln (.N .ln (.cons (.w 180) (.cons (.w 369) .nil)))))))
(.next 4 (.gs (.g 178) (.w 180) 1 171 .nil)))
(.u (.N .ln (.N .ln (.cons (.w 180) (.cons (.p 111) .nil)))))))
.panic))
(.br (.eq (.get (.g 1) (.w 180) 0) (.p 5))
(.call 11 (kTy) .nil 195
(.next 4 (.vs 195 9 (.zr 45 (.gs (.g 178) (.w 180) 55 117 .nil)))))
(.next 4 (.gs (.g 178) (.w 180) 1 171 .nil))))))
(.br (.lt (.get (.g 1) (.w 180) 5) (.p 0))
.panic
(.br (.lt (.get (.g 1) (.w 180) 5) (.p 11))
(.cut 5 366 [.bool]
(.br (.eq (.get (.g 1) (.w 180) 0) (.p 3))
(.br (.eq (.nth (.get (.g 1) (.w 180) 5) (.sv 195 11)) (.p 1))
(.next 5 (.j (.eq (.w 183) (.p 1)) .nil))
(.next 5 (.j (.tt ZC) .nil)))
(.next 5 (.j (.tt ZC) .nil)))
(.call 7 [.int .i8,.bool] (.cons (.get (.g 1) (.w 180) 1) .nil) 367
(.cut 6 369 [.int .u64,.list NP,.list [some .i64]]
(.br (.s 194)
(.br (.s 366)
(.br (.s 368)
(.call 14 (kSc++[.bool]) (.cons (.w 367) (.tn (.get (.g 1) (.w 180) 5) 196 6 (.vs 184 6 .nil))) 369
(.br (.s 375)
(.call 15 (kTy) (.vs 369 6 .nil) 376
(Fu (.f .add .i64 (.w 180) (.p 1)) (fun t=>(.rg (.get (.g 1) (.w 180) 5) (.vs 376 9 .nil) (.vs 195 99 .nil) (.vs 294 72 t))) (.f .and .u64 (.w 177) (.f .sub .u64 (.w 177) (.p 1))) (.g 178) (.g 179) 385 (fun w T g=>.next 6 (.cons w (.N T (.N g .nil))))))
(.next 6 (.cons (.f .and .u64 (.w 177) (.f .sub .u64 (.w 177) (.p 1))) (.N (.g 178) (.N (.g 179) .nil))))))
(Fu (.f .add .i64 (.w 180) (.p 1)) (fun t=>(.vs 195 171 t)) (.f .and .u64 (.w 177) (.f .sub .u64 (.w 177) (.p 1))) (.g 178) (.g 179) 369 (fun w T g=>.next 6 (.cons w (.N T (.N g .nil))))))
(Fu (.f .add .i64 (.w 180) (.p 1)) (fun t=>(.vs 195 171 t)) (.f .and .u64 (.w 177) (.f .sub .u64 (.w 177) (.p 1))) (.g 178) (.g 179) 369 (fun w T g=>.next 6 (.cons w (.N T (.N g .nil))))))
(.next 6 (.cons (.f .and .u64 (.w 177) (.f .sub .u64 (.w 177) (.p 1))) (.N (.g 178) (.N (.g 179) .nil)))))
(.br (.s 193)
(.br (.s 366)
(.call 14 (kSc++[.bool]) (.cons (.get (.g 1) (.w 180) 1) (.tn (.get (.g 1) (.w 180) 5) 196 6 (.vs 184 6 .nil))) 372
(.br (.s 378)
(.call 15 (kTy) (.vs 372 6 .nil) 379
(Fu (.w 192) (fun t=>(.rg (.get (.g 1) (.w 180) 5) (.vs 379 9 .nil) (.vs 195 99 .nil) (.vs 294 72 t))) (.w 369) (.g 370) (.g 371) 388 (fun w T g=>.next 0 (.cons (.w 180) (.cons (.f .add .i64 (.w 176) (.p 1)) (.cons w (.N T (.N g .nil))))))))
(.next 0 (.cons (.w 180) (.cons (.f .add .i64 (.w 176) (.p 1)) (.cons (.w 369) (.N (.g 370) (.N (.g 371) .nil))))))))
(Fu (.w 192) (fun t=>(.vs 195 171 t)) (.w 369) (.g 370) (.g 371) 372 (fun w T g=>.next 0 (.cons (.w 180) (.cons (.f .add .i64 (.w 176) (.p 1)) (.cons w (.N T (.N g .nil))))))))
(.next 0 (.cons (.w 180) (.cons (.f .add .i64 (.w 176) (.p 1)) (.cons (.w 369) (.N (.g 370) (.N (.g 371) .nil))))))))))
.panic))))))
.panic)))))
.panic)
.panic)
(.stuck 270))
.panic)))))))
(.u (.N .ln (.N .ln (.vs 2 2 .nil))))))
def sP_vrun:Spec:={F:=fun k=>match k with|0=>c_icheck.F|1=>c_tfirst.F|2=>qq|3=>c_vrd.F|4=>Sw|5=>c_itgt.F|6=>c_vone.F|7=>c_bnot.F|8=>c_valu.F|9=>c_vacc.F|10=>c_vby.F|11=>c_tscal.F|12=>c_tload.F|13=>c_tstore.F|14=>c_vgiv.F|15=>c_vsca.F|16=>c_tsjoin.F|17=>c_tswid.F|_=>fun _=>[],pre:=fun k=>match k with|0=>ge|8=>ql|9=>qm|_=>fun _=>True,hw:=JA,hx:=sHx,hi:=sHi}
def aqc:cG afa [c_icheck.m 0,c_tfirst.m 1,zt 2,c_vrd.m 3,Wa 4,c_itgt.m 5,c_vone.m 6,c_bnot.m 7,c_valu.m 8,c_vacc.m 9,c_vby.m 10,c_tscal.m 11,c_tload.m 12,c_tstore.m 13,c_vgiv.m 14,c_vsca.m 15,c_tsjoin.m 16,c_tswid.m 17] [(15,f15,[(3,[.tmpI 9 .i64]++Eb [(6,2),(36,14)]),(999999,[]),(999998,[])],[(10,[.cels 11 0 (kN 9 221122110)]++Eb [(57,12)]),(12,[.tmpX 13 [ZD] 4]++Eb [(77,12)]),(37,[.cels 9 0 Ih]++Eb [(6,2),(14,8),(89,129)]),(39,[.tmpX 23 [ZD] 4]++Eb [(225,15)])]),(42,f42,[(999999,[]),(999998,[])],[(3,[.cI 6 0 .u64,.row 3,.row 4]++Eb [(15,10)])]),(43,f43,[(999999,[]),(999998,[])],[])] [(11,[.tmpI 10 .i64,.tmpI 12 .i64,.cI 6 0 .u64,.row 3,.row 4]++Eb [(3,2),(13,6),(34,36),(71,45)]),(35,[.tmpI 119 .i64,.cT 7 0 [ZD] 4,.cT 7 1 Ih 67,.row 3]++Eb [(20,1),(120,30)]),(999999,[]),(999997,[]),(999995,[.tmpS 54 Ih 67]),(999994,[.only [67,77]]),(999993,[.only [55]])] [] 200 f6 [.agg kProg] [.agg [.sl [ZD] 4,.sl Ih 67],.one (.int .i64),.one (.int .i64)] ZB (v_Prog []) zh:=FJ (by kernel_rfl)
def uB:List Dt->Prop
 |[.z x0,.l x1]=>let f (p:Prog):Prop:=p.l.length<=maxLen;f ⟨x0,x1⟩
 |_=>False
def aom(a c:Sta):c_tsjoin.F (d_Sta a (d_Sta c []))=d_Sta (iQ ZC a c) [.z (Fy a c)]:=by simp only[c_tsjoin];rw[de,de]
def au8(a c:Sta):c_tswid.F (d_Sta a (d_Sta c []))=d_Sta (iQ ZB a c) [.z (Fy a c)]:=by simp only[c_tswid];rw[de,de]
structure RF(p:Prog)(AQ:Int)(r:VR)(k:Nat)(ρ:Env):Prop where
 l:ρ.l 1=p.l
 c:ρ.i 0=p.ctx
 v:ρ.i 176=AQ
 w:ρ.i 177=r.w
 T:ρ.l 178=r.T
 g:ρ.l 179=r.g
 i:ρ.i 180=(k:Int)
def RF.ag{p:Prog}{AQ:Int}{r:VR}{k n:Nat}{ρ ρ':Env}(h:RF p AQ r k ρ)(ha:Ag n ρ ρ')(hn:181<=n):RF p AQ r k ρ':=⟨(kL ha h.l Fn),(kI ha h.c Fn),(kI ha h.v Fn),(kI ha h.w Fn),(kL ha h.T Fn),(kL ha h.g Fn),(kI ha h.i Fn)⟩
def RF.X{p:Prog}{AQ:Int}{r:VR}{k:Nat}{ρ:Env}(h:RF p AQ r k ρ)(c:Nat):(E.get (.g 1) (.w 180) c).I ρ=gt p.l k c:=by simp only[E.I,E.R,h.l,h.i]
def VG(cc n:E)(w T g:E)(v:Nat)(k:E->E->E->Tr):Tr:=
 .call 14 (kSc++[.bool]) (.cons cc (.tn (.get (.g 1) (.w 180) 5) 196 6 (.vs 184 6 .nil))) v
  (.br (.s (v+6))
   (.call 15 kTy (.vs v 6 .nil) (v+7)
    (Fu n (fun t=>.rg (.get (.g 1) (.w 180) 5) (.vs (v+7) 9 .nil) (.vs 195 99 .nil) (.vs 294 72 t)) w T g (v+16) k))
   (k w T g))
section
variable {G:Env->E->Prop}{ρ:Env}{I:Nat->List Dt->Prop}{p:Prog}{AQ:Int}{r r1:VR}{k:Nat}{s1:Sta}{b:Ty}{n w T g cc:E}{v:Nat}{m c:Int}{kk:E->E->E->Tr}
def rZ(F:RF p AQ r k ρ)(hS:Dz ρ 195=s1)(hB:C4 ρ 183=b)(h:VI p r1)(hw:w.I ρ=r1.w)(hT:T.R ρ=r1.T)(hg:g.R ρ=r1.g)(hn:n.I ρ=m)(hm:0<=m/\m<(p.l.length:Int))(hl:p.l.length<=64)(hc:cc.I ρ=c)(hk:∀w' T' g':E,w'.I ρ=((CW s1 (ab p.l k).d (Al s1 (ab p.l k).d) b ZB m c ZB).foldl AN r1).w->T'.R ρ=((CW s1 (ab p.l k).d (Al s1 (ab p.l k).d) b ZB m c ZB).foldl AN r1).T->g'.R ρ=((CW s1 (ab p.l k).d (Al s1 (ab p.l k).d) b ZB m c ZB).foldl AN r1).g->(kk w' T' g').asks sP_vrun G ρ I):(VG cc n w T g v kk).asks sP_vrun G ρ I:=by
 have hX:(E.get (.g 1) (.w 180) 5).I ρ=(ab p.l k).d:=F.X 5;refine aF (.z c::d_Sc (Al s1 (ab p.l k).d).s (d_Sc b.s [])) (by
  show Dt.z (cc.I ρ)::(E.tn (.get (.g 1) (.w 180) 5) (195+1) 6 (.vs (183+1) 6 .nil)).D ρ=_;rw[awO,SO,hS,hX,hc,avu,hB];rfl) trivial (fun e=> ?_)
 rw[show sP_vrun.F 14=c_vgiv.F from rfl,ava]at e;obtain⟨e1,e2,_⟩:=Wj e;have e3:ρ.b (v+6)=DB c (Al s1 (ab p.l k).d).s b.s:=e2.trans (oP _);refine⟨fun c0=> ?_,fun c0=> ?_⟩
 .have Ai:DB c (Al s1 (ab p.l k).d).s b.s=ZB:=e3.symm.trans c0;refine aF (d_Sc (Ev c (Al s1 (ab p.l k).d).s b.s) []) (by rw[SO,e1];rfl) trivial (fun e=> ?_);rw[show sP_vrun.F 15=c_vsca.F from rfl,UK]at e;have eT:=xW e;refine xj (s:=BU s1 (ab p.l k).d (DH (Ev c (Al s1 (ab p.l k).d).s b.s))) au8 aom (fun _=>trivial) (fun _=>trivial) h hw hT hg hn hm hl (fun t=> ?_) ?_ ?_
  .rw[awP (n:=195),hS,hX,eT]
  .rw[awL (n:=195),hS,hX,eT]
  .have hv:CW s1 (ab p.l k).d (Al s1 (ab p.l k).d) b ZB m c ZB=[(m,BU s1 (ab p.l k).d (DH (Ev c (Al s1 (ab p.l k).d).s b.s)))]:=by
    unfold CW;rw[ae (by rfl),ae Ai]
   rw[hv]at hk;exact hk
 .have Ai:¬DB c (Al s1 (ab p.l k).d).s b.s=ZB:=by
   rw[<-e3];intro h9;rw[show(E.s (v+6)).B ρ=ρ.b (v+6)from rfl,h9]at c0;cases c0
  have hv:CW s1 (ab p.l k).d (Al s1 (ab p.l k).d) b ZB m c ZB=[]:=by unfold CW;rw[ae (by rfl),aa Ai]
  rw[hv]at hk;exact hk _ _ _ hw hT hg
def lB(hS:Dz ρ 195=s1)(h:VI p r1)(hw:w.I ρ=r1.w)(hT:T.R ρ=r1.T)(hg:g.R ρ=r1.g)(hn:n.I ρ=m)(hm:0<=m/\m<(p.l.length:Int))(hl:p.l.length<=64)(hk:∀w' T' g':E,w'.I ρ=([(m,s1)].foldl AN r1).w->T'.R ρ=([(m,s1)].foldl AN r1).T->g'.R ρ=([(m,s1)].foldl AN r1).g->(kk w' T' g').asks sP_vrun G ρ I):(Fu n (fun t=>.vs 195 171 t) w T g v kk).asks sP_vrun G ρ I:=
 xj (s:=s1) au8 aom (fun _=>trivial) (fun _=>trivial) h hw hT hg hn hm hl (fun t=>by rw[avg,hS]) (by rw[Wu,hS]) hk
end
def RI(p:Prog)(ds:List Dt):Prop:=∃(last AQ:Int) (r:VR),ds=[.z last,.z AQ,.z r.w,.l r.T,.l r.g]/\VI p r/\(0<=AQ/\AQ<=2000)/\jo p (2000-AQ).toNat last r=AK p
def RM(ds:List Dt):Nat:=(2000-dI ds 1).toNat
section
variable {G:Env->E->Prop}{ρ:Env}{I:Nat->List Dt->Prop}{p:Prog}{AQ:Int}{r r1:VR}{k:Nat}{s1:Sta}{b:Ty}{n w T g:E}{v:Nat}{kk:E->E->E->Tr}
def aeQ(F:RF p AQ r k ρ)(hS:Dz ρ 195=s1)(hB:C4 ρ 183=b)(h:VI p r1)(hw:w.I ρ=r1.w)(hT:T.R ρ=r1.T)(hg:g.R ρ=r1.g)(hn:n.I ρ=Ac .add .i64 (k:Int) 1)(hm:jd (ab p.l k)=ZB->0<=Ac .add .i64 (k:Int) 1/\Ac .add .i64 (k:Int) 1<(p.l.length:Int))(hl:p.l.length<=64)(t4:ρ.b 194=jd (ab p.l k))(t6:ρ.b 366=iq (ab p.l k) s1 b)(t7:ρ.i 367=im (ab p.l k).op)(t8:ρ.b 368=gE (ab p.l k).op)(nx:∀w' T' g':E,w'.I ρ=((gH k (ab p.l k) s1 b).foldl AN r1).w->T'.R ρ=((gH k (ab p.l k) s1 b).foldl AN r1).T->g'.R ρ=((gH k (ab p.l k) s1 b).foldl AN r1).g->(kk w' T' g').asks sP_vrun G ρ I):(Tr.br (.s 194) (.br (.s 366) (.br (.s 368) (VG (.w 367) n w T g 369 kk) (Fu n (fun t=>.vs 195 171 t) w T g v kk)) (Fu n (fun t=>.vs 195 171 t) w T g v kk)) (kk w T g)).asks sP_vrun G ρ I:=by
 refine⟨fun c=> ?_,fun c=> ?_⟩
 .have hf:jd (ab p.l k)=ZB:=t4.symm.trans c;obtain⟨k4,k6⟩:=vK hf;refine⟨fun c6=>⟨fun c8=> ?_,fun c8=> ?_⟩,fun c6=> ?_⟩
  .rw[aeP k4 k6 (by rw[show iq (ab p.l k) s1 b=ZB from t6.symm.trans c6,show gE (ab p.l k).op=ZB from t8.symm.trans c8];rfl)]at nx;exact rZ F hS hB h hw hT hg hn (hm hf) hl t7 nx
  .rw[aaG k4 k6 (by rw[show gE (ab p.l k).op=ZC from t8.symm.trans c8,Bool.and_false])]at nx;exact lB hS h hw hT hg hn (hm hf) hl nx
  .rw[aaG k4 k6 (by rw[show iq (ab p.l k) s1 b=ZC from t6.symm.trans c6];rfl)]at nx;exact lB hS h hw hT hg hn (hm hf) hl nx
 .rw[akc (aki (t4.symm.trans c))]at nx;exact nx _ _ _ hw hT hg
def aeO(F:RF p AQ r k ρ)(hS:Dz ρ 195=s1)(hB:C4 ρ 183=b)(h:VI p r1)(e1:ρ.i 369=r1.w)(e2:ρ.l 370=r1.T)(e3:ρ.l 371=r1.g)(t1:ρ.i 192=(AD k (ab p.l k)).1)(t2:ρ.b 193=(AD k (ab p.l k)).2)(hm:(AD k (ab p.l k)).2=ZB->0<=(AD k (ab p.l k)).1/\(AD k (ab p.l k)).1<(p.l.length:Int))(hl:p.l.length<=64)(t6:ρ.b 366=iq (ab p.l k) s1 b)(nx:∀w' T' g':E,w'.I ρ=((hG k (ab p.l k) s1 b).foldl AN r1).w->T'.R ρ=((hG k (ab p.l k) s1 b).foldl AN r1).T->g'.R ρ=((hG k (ab p.l k) s1 b).foldl AN r1).g->(kk w' T' g').asks sP_vrun G ρ I):(Tr.br (.s 193) (.br (.s 366) (VG (.get (.g 1) (.w 180) 1) (.w 192) (.w 369) (.g 370) (.g 371) 372 kk) (Fu (.w 192) (fun t=>.vs 195 171 t) (.w 369) (.g 370) (.g 371) v kk)) (kk (.w 369) (.g 370) (.g 371))).asks sP_vrun G ρ I:=by
 refine⟨fun c=> ?_,fun c=> ?_⟩
 .have hj:(AD k (ab p.l k)).2=ZB:=t2.symm.trans c;refine⟨fun c2=> ?_,fun c2=> ?_⟩
  .rw[aeM hj (t6.symm.trans c2)]at nx;exact rZ F hS hB h e1 e2 e3 t1 (hm hj) hl (F.X 1) nx
  .rw[aka hj (t6.symm.trans c2)]at nx;exact lB hS h e1 e2 e3 t1 (hm hj) hl nx
 .rw[akb (t2.symm.trans c)]at nx;exact nx _ _ _ e1 e2 e3
end
def ap8(p:Prog)(hp:Prog.ok p)(hp:uB (d_Prog p [])):Cn zh sP_vrun (v_Prog []) (d_Prog p []) zu:=by
 intro ρ g;have hl:p.l.length<=maxLen:=hp;have g0:ρ.i 0=p.ctx/\ρ.l 1=p.l:=by simp only[df,varsD,varD,AY,Dt.z.injEq,Dt.l.injEq,and_true,Nat.reduceAdd]at g;exact g
 unfold zh;refine aF (xs:=[.z p.ctx,.l p.l]) (by simp only[E.D,E.I,E.R,g0.1,g0.2]) hl (fun e=> ?_);have e1:ρ.i 2=(aH p).1/\ρ.i 3=(aH p).2:=⟨e.1,e.2.1⟩
 clear e;refine⟨fun c0=> ?_,fun c0=> ?_⟩
 rotate_left
 .have h0:¬(aH p).2=0:=by
   simp only[E.B,E.I,e1.2]at c0;exact BM c0
  show[Dt.l [],.l [],.z (ρ.i 2),.z (ρ.i 3)]=[.l (AK p).1,.l (AK p).2.1,.z (AK p).2.2.1,.z (AK p).2.2.2];unfold AK;rw[e1.1,e1.2,aa h0]
 have Ai:(aH p).2=0:=by simp only[E.B,E.I,e1.2]at c0;exact Bs c0
 obtain⟨⟨q1,q2,q3⟩,q4,q5⟩:=bj hl Ai;refine aF (xs:=[]) rfl trivial (fun e=> ?_);have eF:Dz ρ 4=jJ:=auK e;clear e;refine⟨RI p,RM,⟨0,0,vini,?_,VI.ini q2,by decide,by unfold AK;rw[ae Ai];rfl⟩,?_⟩
 .have e2:(E.lput (.lrep (.p 64) (.j (.tt ZC) (.zr 171 .nil))) (.p 0) (.j (.tt ZB) (.vs 4 171 .nil))).R ρ=vini.T:=by
   simp only[E.R,E.L,Wu,eF];rfl
  simp only[E.zs,E.D,e2];rfl
 intro ρ1 A7 _ Bm;obtain⟨last,AQ,r,Bw,hV,hv,Be⟩:=Bm;simp only[varsD,varD,AY,Dt.z.injEq,Dt.l.injEq,and_true,Nat.reduceAdd]at Bw;obtain⟨d1,d2,d3,d4,d5⟩:=Bw;have gl:=kL A7 g0.2;have gc:=kI A7 g0.1;refine⟨fun c1=> ?_,fun c1=> ?_⟩
 ·
  have HG:r.w=0:=by simp only[E.B,E.I,d3]at c1;exact Bs c1
  rw[iu HG]at Be;refine⟨fun ds=>∃(n:Nat) (T:LL),ds=[.z n,.l ((List.range n).map fun(k:Nat)=>[Ay (gt r.T k 0==1)]),.l ((List.range n).map fun(k:Nat)=>if gt r.T k 0=1 then BG (ap r.T k)else YK 171 0),.l T]/\n<=p.l.length/\T.length=64/\∀k,n<=k->T[k]? =r.T[k]?,fun ds=>(64-dI ds 0).toNat,⟨0,r.T,by simp only[E.D,E.R,E.I,d4];rfl,Nat.zero_le _,hV.T,fun _ _=>rfl⟩,?_⟩;intro ρ2 DO _ Hi;obtain⟨n,T,Bw,hn,hT,ID⟩:=Hi;rw[show varsD ρ2 180 _=[.z (ρ2.i 180),.l (ρ2.l 181),.l (ρ2.l 182),.l (ρ2.l 183)]from rfl]at Bw ⊢;simp only[AY,Dt.z.injEq,Dt.l.injEq,and_true]at Bw;obtain⟨f1,f2,f3,f4⟩:=Bw;have gl2:=kL DO gl;refine⟨fun c2=> ?_,fun c2=> ?_⟩
  rotate_left
  .have GD:n=p.l.length:=by
    simp only[E.B,E.I,E.R,f1,gl2]at c2;have:=Af c2;omega
   show[Dt.l (ρ2.l 181),.l (ρ2.l 182),.z 0,.z 0]=[.l (AK p).1,.l (AK p).2.1,.z (AK p).2.2.1,.z (AK p).2.2.2];rw[<-Be,f2,f3,GD];rfl
  have GD:n<p.l.length:=by simp only[E.B,E.I,E.R,f1,gl2]at c2;have:=Ae c2;omega
  have hn64:n<64:=Fn;have hs:=ID n (Nat.le_refl n);have b1:(E.lt (.len (.g 181)) (.p 1073741824)).B ρ2=ZB:=by simp only[E.B,E.I,E.R,f2,List.length_map,List.length_range];exact cP Fn
  have b2:(E.lt (.len (.g 182)) (.p 1073741824)).B ρ2=ZB:=by simp only[E.B,E.I,E.R,f3,List.length_map,List.length_range];exact cP Fn
  have eI:(E.f .add .i64 (.w 180) (.p 1)).I ρ2=((n+1:Nat):Int):=by simp only[E.I,f1];exact av2 hn64
  refine⟨fun c3=> ?_,fun _=>⟨fun _=>⟨fun _=>⟨fun c4=>⟨fun _=>⟨fun _=>aQ ?_,fun c=> ?_⟩,fun c=> ?_⟩,fun c4=>⟨fun _=>⟨fun _=>aQ ?_,fun c=> ?_⟩,fun c=> ?_⟩⟩,fun c=> ?_⟩,fun c=> ?_⟩⟩
  .simp only[E.B,E.I,f1]at c3;have:=Ae c3;omega
  .have h1:gt r.T n 0=1:=by
    simp only[E.B,E.I,E.R,f1,f4,gT hs]at c4;exact Bs c4
   refine⟨⟨n+1,T,?_,GD,hT,fun k hk=>ID k Fn⟩,?_⟩
   .simp only[E.D];rw[eI];simp only[E.R,E.L,au7,E.I,E.B,f1,f2,f3,f4,dO hs,List.range_succ,List.map_append,List.map_cons,List.map_nil,h1,aW,beq_self_eq_true]
   .show(64-(E.f .add .i64 (.w 180) (.p 1)).I ρ2).toNat<(64-ρ2.i 180).toNat;rw[eI,f1];omega
  .rw[b2]at c;cases c
  .rw[b1]at c;cases c
  .have h1:¬gt r.T n 0=1:=by
    simp only[E.B,E.I,E.R,f1,f4,gT hs]at c4;exact BM c4
   have hb:(gt r.T n 0==1)=ZC:=by simp only[E.B,E.I,E.R,f1,f4,gT hs]at c4;exact c4
   refine⟨⟨n+1,T.set n (1::YK 171 0),?_,GD,by rw[List.length_set];exact hT,fun k hk=>by rw[nE Fn];exact ID k Fn⟩,?_⟩
   .have eT:(E.lput (.g 183) (.w 180) (.j (.tt ZB) (.zr 171 .nil))).R ρ2=T.set n (1::YK 171 0):=by
     simp only[E.R,E.I,f1,f4,cy];rfl
    have eS:(E.lq (.g 182) (.zr 171 .nil)).R ρ2=ρ2.l 182++[YK 171 0]:=rfl;simp only[E.D,eI,eT,eS,f3,List.range_succ,List.map_append,List.map_cons,List.map_nil,aa h1];simp only[E.R,E.L,E.B,f2,hb]
   .show(64-(E.f .add .i64 (.w 180) (.p 1)).I ρ2).toNat<(64-ρ2.i 180).toNat;rw[eI,f1];omega
  .rw[b2]at c;cases c
  .rw[b1]at c;cases c
  .simp only[E.B,E.I,E.R,f1,f4,hT]at c;have:=Af c;omega
  .simp only[E.B,E.I,f1]at c;have:=Af c;omega
 have HG:r.w≠0:=by simp only[E.B,E.I,d3]at c1;exact BM c1
 refine⟨fun c2=> ?_,fun c2=> ?_⟩
 .have Ic:AQ=2000:=by
   simp only[E.B,E.I,d2]at c2;exact Bs c2
  show[Dt.l [],.l [],.z (ρ1.i 175),.z 112]=[.l (AK p).1,.l (AK p).2.1,.z (AK p).2.2.1,.z (AK p).2.2.2];rw[<-Be,Ic,d1,show(2000-2000:Int).toNat=0 from rfl,lk HG]
 have Ic:AQ<2000:=by simp only[E.B,E.I,d2]at c2;have:=BM c2;omega
 obtain⟨MV,k,EX,Dj,Eh,hk4⟩:=hV.next HG;obtain⟨m,hm⟩:∃m,(2000-AQ).toNat=m+1:=⟨(2000-AQ).toNat-1,by omega⟩
 have Jt:m=(2000-(AQ+1)).toNat:=Fn;rw[hm]at Be;have J0:∀e:Int,(bA p k (ap r.T k))=([],e)->e≠0->AK p=([],[],(k:Int),e):=fun e he h0=>by rw[<-Be,pQ HG (by rw[EX,he];exact h0),EX,he]
 refine aF [.z r.w] (by simp only[E.D,E.I,d3]) trivial (fun e=> ?_);have F1:RF p AQ r k ρ1:=⟨gl,gc,d2,d3,d4,d5,(show ρ1.i 180=CL r.w from e.1).trans EX⟩
 clear e;have hx:AL (ab p.l k)=ZB:=fT hl Ai (Int.natCast_nonneg k) Fn;have hd:=aZ hx;refine⟨fun c=> ?_,fun _=>⟨fun _=>⟨fun _=>⟨fun _=>⟨fun _=> ?_,fun c=> ?_⟩,fun c=> ?_⟩,fun c=> ?_⟩,fun c=> ?_⟩⟩
 .simp only[E.B,E.I,F1.i]at c;have:=Ae c;omega
 rotate_left
 .simp only[E.B,E.I,E.R,F1.i,F1.l]at c;have:=Af c;omega
 .simp only[E.B,E.I,E.R,F1.i,F1.T,hk4]at c;cases c
 .simp only[E.B,E.I,E.R,F1.i,F1.T,hV.T]at c;have:=Af c;omega
 .simp only[E.B,E.I,F1.i]at c;have:=Af c;omega
 obtain⟨R,hR,K3⟩:=amJ hx;refine aF (d_Ins (ab p.l k) []) (by rw[Ww];simp only[E.R,E.I,F1.l,F1.i];rfl) trivial (fun e=> ?_);have W5:ρ1.i 181=(R:Int):=by have e:=e;rw[show sP_vrun.F 3=c_vrd.F from rfl,awM,hR]at e;exact e.1
 clear e;refine⟨fun ds=>∃m:Nat,ds=[.z (m:Int)]/\UInv (ap r.T k) R m,fun ds=>(dI ds 0).toNat,⟨R,by simp only[E.D,E.I,W5],.init K3⟩,?_⟩;intro ρ2 DO _ Hi;obtain⟨n,Bw,hU⟩:=Hi;rw[show varsD ρ2 182 [.int .i64]=[.z (ρ2.i 182)]from rfl]at Bw ⊢;simp only[AY,Dt.z.injEq,and_true]at Bw;have F2:=F1.ag DO Os;refine⟨fun c3=> ?_,fun c3=> ?_⟩
 ·
  have hn:0<n:=by simp only[E.B,E.I,Bw]at c3;have:=Ae c3;omega
  refine aF [.z (ZG .u64 n)] (by simp only[E.D,E.I,Bw]) trivial (fun e=> ?_);have MM:ρ2.i 183=CL (ZG .u64 n):=e.1;clear e;have hz:=avm hn hU.lt;have cB:(E.eq (.nth (.w 183) (.sg (.g 178) (.w 180) 1 11)) (.p 0)).B ρ2=((ig (ap r.T k)).getD (CL (ZG .u64 n)).toNat 0==0):=by show(((E.sg (.g 178) (.w 180) 1 11).L ρ2).getD (ρ2.i 183).toNat 0==0)=_;rw[show(E.sg (.g 178) (.w 180) 1 11).L ρ2=ig (ap (ρ2.l 178) (ρ2.i 180))from rfl,F2.T,F2.i,MM]
  refine⟨fun c=> ?_,fun _=>⟨fun _=>⟨fun c4=> ?_,fun c4=> ?_⟩,fun c=> ?_⟩⟩
  .simp only[E.B,E.I,MM]at c;have:=Ae c;omega
  .rw[cB]at c4;have hb:fH (ap r.T k) R=ZB:=hU.bad hn c4;have EP:bA p k (ap r.T k)=([],110):=by
    unfold bA;rw[hR,cy,ae hb]
   show[Dt.l [],.l [],.z (ρ2.i 180),.z 110]=[.l (AK p).1,.l (AK p).2.1,.z (AK p).2.2.1,.z (AK p).2.2.2];rw[J0 110 EP Os,F2.i]
  .rw[cB]at c4;obtain⟨m2,e1,e2,e3⟩:=hU.next hn c4;refine aQ ⟨⟨m2,?_,e2⟩,?_⟩
   .simp only[E.D,E.I,Bw,e1]
   .show((E.f .and .i64 (.w 182) (.f .sub .i64 (.w 182) (.p 1))).I ρ2).toNat<(ρ2.i 182).toNat;simp only[E.I,Bw,e1];omega
  .simp only[E.B,E.I,MM]at c;have:=Af c;omega
 have hn:n=0:=by simp only[E.B,E.I,Bw]at c3;have:=Af c3;omega
 subst hn;have hu:fH (ap r.T k) R=ZC:=hU.good;have X5:∀ρ,RF p AQ r k ρ->(E.lt (.get (.g 1) (.w 180) 5) (.p 0)).B ρ=ZC/\(E.lt (.get (.g 1) (.w 180) 5) (.p 11)).B ρ=ZB:=fun ρ F=>by have h5:(E.get (.g 1) (.w 180) 5).I ρ=(ab p.l k).d:=F.X 5;simp only[E.B];rw[h5];exact⟨fB (by show¬(ab p.l k).d<0;omega),cP (by show(ab p.l k).d<11;omega)⟩
 have X6:(E.lt (.get (.g 1) (.w 180) 6) (.p 0)).B ρ2=ZC/\(E.lt (.get (.g 1) (.w 180) 6) (.p 11)).B ρ2=ZB:=by have h6:(E.get (.g 1) (.w 180) 6).I ρ2=(ab p.l k).s:=F2.X 6;simp only[E.B];rw[h6];exact⟨fB (by show¬(ab p.l k).s<0;omega),cP (by show(ab p.l k).s<11;omega)⟩
 refine⟨fun c=>(by rw[X6.1]at c;cases c),fun _=>⟨fun _=> ?_,fun c=>(by rw[X6.2]at c;cases c)⟩⟩;refine⟨fun ds=>ds=d_Ty (cA (ab p.l k) (ap r.T k)) [],⟨fun c=>aQ ?_,fun c=> ?_⟩,?_⟩
 .have hb:(ab p.l k).br=ZB:=by
   simp only[E.B,E.R,E.I,F2.l,F2.i]at c;exact c
  rw[PA,show(E.g 178).R ρ2=r.T from F2.T,show(E.w 180).I ρ2=(k:Int)from F2.i,show(E.get (.g 1) (.w 180) 6).I ρ2=(ab p.l k).s from F2.X 6];unfold cA;rw[ae hb];rfl
 .have hb:¬(ab p.l k).br=ZB:=by
   simp only[E.B,E.R,E.I,F2.l,F2.i]at c;exact fun h=>by rw[show(gt p.l k 4==1)=ZB from h]at c;cases c
  refine aF [.z (ZG .u64 (ab p.l k).imm)] (by
   show[Dt.z (ZG .u64 ((E.get (.g 1) (.w 180) 8).I ρ2))]=_;rw[F2.X 8];rfl) trivial (fun e=> ?_)
  rw[show sP_vrun.F 6=c_vone.F from rfl,au9]at e;have e1:=(Wj (ks:=[]) e).1;refine aF (d_Sc (B7 (ZG .u64 (ab p.l k).imm)) []) (by rw[SO,e1];rfl) trivial (fun e=>aQ ?_);rw[show sP_vrun.F 15=c_vsca.F from rfl,UK]at e;rw[avf,xW e];unfold cA;rw[aa hb];rfl
 intro ρ3 Gs _ KK;have F3:=F2.ag Gs Os;have hB3:C4 ρ3 183=cA (ab p.l k) (ap r.T k):=amm (r:=[]) (r':=[]) KK;clear KK;refine aF (.z k::d_Ins (ab p.l k) []) (by
  show Dt.z (ρ3.i 180)::(E.ins (.g 1) (.w 180) .nil).D ρ3=_;rw[Ww,F3.i,show(E.g 1).R ρ3=p.l from F3.l,show(E.w 180).I ρ3=(k:Int)from F3.i];rfl) trivial (fun e=> ?_)
 rw[show sP_vrun.F 5=c_itgt.F from rfl,ave]at e;have t1:ρ3.i 192=(AD k (ab p.l k)).1:=e.1;have t2:ρ3.b 193=(AD k (ab p.l k)).2:=e.2.1.trans (oP _);clear e
 have GV:∀s1:Sta,BB p (ab p.l k) (ap r.T k)=(s1,0)->∀ρ5,RF p AQ r k ρ5->∀w T g:E,w.I ρ5=((hG k (ab p.l k) s1 (cA (ab p.l k) (ap r.T k))).foldl AN ((gH k (ab p.l k) s1 (cA (ab p.l k) (ap r.T k))).foldl AN (jn r))).w->T.R ρ5=((hG k (ab p.l k) s1 (cA (ab p.l k) (ap r.T k))).foldl AN ((gH k (ab p.l k) s1 (cA (ab p.l k) (ap r.T k))).foldl AN (jn r))).T->g.R ρ5=((hG k (ab p.l k) s1 (cA (ab p.l k) (ap r.T k))).foldl AN ((gH k (ab p.l k) s1 (cA (ab p.l k) (ap r.T k))).foldl AN (jn r))).g->
   RI p ((E.cons (.w 180) (.cons (.f .add .i64 (.w 176) (.p 1)) (.cons w (.N T (.N g .nil))))).D ρ5)/\RM ((E.cons (.w 180) (.cons (.f .add .i64 (.w 176) (.p 1)) (.cons w (.N T (.N g .nil))))).D ρ5)<RM (varsD ρ1 175 [.int .i64,.int .i64,.int .u64,.list [],.list []]):=by
  intro s1 J7 ρ5 F5 w T g hw hT hg;have hs:bA p k (ap r.T k)=(gH k (ab p.l k) s1 (cA (ab p.l k) (ap r.T k))++hG k (ab p.l k) s1 (cA (ab p.l k) (ap r.T k)),0):=by unfold bA;rw[hR,cy,hu,J7,aa (by simp),ae rfl]
  have hV3:=VI.puts q3 _ (VI.puts q3 _ MV (yA hl Ai Eh (s:=s1) (b:=cA (ab p.l k) (ap r.T k)))) (aeN hl Ai Eh (s:=s1) (b:=cA (ab p.l k) (ap r.T k)));have ev:Ac .add .i64 AQ 1=AQ+1:=by show IntKind.i64.wrap _=_;rw[aK];omega
  refine⟨⟨k,AQ+1,_,?_,hV3,⟨by omega,by omega⟩,?_⟩,?_⟩
  .simp only[E.D,E.I,F5.i,F5.v,hw,hT,hg,ev]
  .rw[<-Jt,<-Be,nB HG (by rw[EX,hs]),EX,hs,List.foldl_append]
  .show(2000-(E.f .add .i64 (.w 176) (.p 1)).I ρ5).toNat<(2000-ρ1.i 176).toNat;simp only[E.I,F5.v,d2,ev];omega
 have kx:∀(ρ:Env),RF p AQ r k ρ->∀z:Int,(E.eq (.get (.g 1) (.w 180) 0) (.p z)).B ρ=((ab p.l k).k==z):=fun ρ F z=>by show((E.get (.g 1) (.w 180) 0).I ρ==z)=_;rw[F.X 0];rfl
 refine⟨fun ds=>ds=[.z (Ay (jd (ab p.l k)))],⟨fun c=>aQ ?_,fun c=>aQ ?_⟩,?_⟩
 .show[Dt.z (Ay ZC)]=_;unfold jd;rw[show((ab p.l k).k==4)=ZB from(kx ρ3 F3 4).symm.trans c];rfl
 .show[Dt.z (Ay (!((E.get (.g 1) (.w 180) 0).I ρ3==6)))]=_;rw[F3.X 0];unfold jd;rw[show((ab p.l k).k==4)=ZC from(kx ρ3 F3 4).symm.trans c];rfl
 intro ρ4 HV _ K9;have f4:ρ4.b 194=jd (ab p.l k):=oq (Dt.z.inj (List.cons.inj K9).1);clear K9;have F4:=F3.ag HV Os;have hB4:C4 ρ4 183=cA (ab p.l k) (ap r.T k):=(Rx HV Os).trans hB3;have EV:(E.g 178).R ρ4=r.T:=F4.T;have EW:(E.w 180).I ρ4=(k:Int):=F4.i;have GY:(E.g 1).R ρ4=p.l:=F4.l;have h5:(E.get (.g 1) (.w 180) 5).I ρ4=(ab p.l k).d:=F4.X 5;have h6:(E.get (.g 1) (.w 180) 6).I ρ4=(ab p.l k).s:=F4.X 6;have Lx:∀(s1:Sta) (e:Int),BB p (ab p.l k) (ap r.T k)=(s1,e)->e≠0->bA p k (ap r.T k)=([],e):=fun s1 e h h0=>by unfold bA;rw[hR,cy,hu,h,aa (by simp),aa h0]
 have z3:bc (ab p.l k).sz=ZB->(E.F .i64 (.get (.g 1) (.w 180) 3)).I ρ4=(ab p.l k).sz:=fun hz=>by show IntKind.i64.wrap ((E.get (.g 1) (.w 180) 3).I ρ4)=_;rw[F4.X 3];exact apS hz
 have wz:∀{t:Ty},aG p.ctx t (ab p.l k).off (ab p.l k).sz=ZB->bc (ab p.l k).sz=ZB:=fun {t} h=>by unfold aG at h;rw[ne,ne]at h;exact h.2.1
 refine⟨fun ds=>∃s1,ds=d_Sta s1 []/\BB p (ab p.l k) (ap r.T k)=(s1,0),?_,?_⟩
 .refine⟨fun c0=> ?_,fun c0=>⟨fun c1=> ?_,fun c1=>⟨fun c2=> ?_,fun c2=>⟨fun c5=> ?_,fun c5=> ?_⟩⟩⟩⟩
  ·
   have hk:(ab p.l k).k=0:=Bs ((kx ρ4 F4 0).symm.trans c0);refine⟨fun c=>Yr,fun _=>⟨fun _=> ?_,fun c=>Ys⟩⟩;refine aF (.l (E1 (ab p.l k))::d_Ty (Al (ap r.T k) (ab p.l k).d) (d_Ty (cA (ab p.l k) (ap r.T k)) [])) (by
    show Dt.l ((E.lq .ln (.ins (.g 1) (.w 180) .nil)).R ρ4)::(E.tg (.get (.g 1) (.w 180) 5) (.g 178) (.w 180) 1 9 (.vs 183 9 .nil)).D ρ4=_;rw[Wt,PA,avf,hB4,EV,EW,h5,GY];rfl) rfl (fun e=> ?_)
   rw[show sP_vrun.F 8=c_valu.F from rfl,avb]at e;have eT:=xW e;refine aQ ⟨_,by rw[Wv,EV,EW,h5,eT];rfl,?_⟩;unfold BB;rw[ae hk]
  ·
   have J4:(ab p.l k).k≠0:=BM ((kx ρ4 F4 0).symm.trans c0);have hk:(ab p.l k).k=1:=Bs ((kx ρ4 F4 1).symm.trans c1);refine aF (.z p.ctx::.l p.l::.l (E1 (ab p.l k))::d_Ty (Al (ap r.T k) (ab p.l k).s) []) (by
    show Dt.z (ρ4.i 0)::Dt.l (ρ4.l 1)::Dt.l ((E.lq .ln (.ins (.g 1) (.w 180) .nil)).R ρ4)::(E.tg (.get (.g 1) (.w 180) 6) (.g 178) (.w 180) 1 9 .nil).D ρ4=_;rw[Wt,PA,EV,EW,h6,GY,F4.c,F4.l];rfl) ⟨rfl,hl⟩ (fun e=> ?_)
   rw[show sP_vrun.F 9=c_vacc.F from rfl,aok]at e;have a1:ρ4.i 195=HM (Al (ap r.T k) (ab p.l k).s) (ab p.l k):=e.1;have a2:ρ4.i 196=HL (Al (ap r.T k) (ab p.l k).s) (ab p.l k):=e.2.1;have a3:ρ4.b 197=aG p.ctx (Al (ap r.T k) (ab p.l k).s) (ab p.l k).off (ab p.l k).sz:=e.2.2.1.trans (oP _);clear e;refine⟨fun cw=> ?_,fun cw=> ?_⟩
   .have hw:=a3.symm.trans cw;have hz:=z3 (wz hw);refine aF [.z (ab p.l k).sz] (by
     show[Dt.z ((E.F .i64 (.get (.g 1) (.w 180) 3)).I ρ4)]=_;rw[hz]) trivial (fun e=> ?_)
    rw[show sP_vrun.F 10=c_vby.F from rfl,awN]at e;have e1:=(Wj (ks:=[]) e).1;refine aF (d_Sc (C5 (ab p.l k).sz) []) (by rw[SO,e1];rfl) trivial (fun e=> ?_);rw[show sP_vrun.F 15=c_vsca.F from rfl,UK]at e;have eT:=xW e;clear e;refine⟨fun c=>Yr,fun _=>⟨fun _=> ?_,fun c=>Ys⟩⟩;have PF:(E.eq (.nth (.get (.g 1) (.w 180) 6) (.sg (.g 178) (.w 180) 1 11)) (.p 3)).B ρ4=((Al (ap r.T k) (ab p.l k).s).k==3):=by show(((E.sg (.g 178) (.w 180) 1 11).L ρ4).getD ((E.get (.g 1) (.w 180) 6).I ρ4).toNat 0==3)=_;rw[show(E.sg (.g 178) (.w 180) 1 11).L ρ4=ig (ap (ρ4.l 178) (ρ4.i 180))from rfl,F4.T,F4.i,h6];rfl
    refine⟨fun c3=> ?_,fun c3=> ?_⟩
    .have h3:(Al (ap r.T k) (ab p.l k).s).k=3:=Bs (PF.symm.trans c3);refine aF (d_Sta (BU (ap r.T k) (ab p.l k).d (DH (C5 (ab p.l k).sz))) [.z (HM (Al (ap r.T k) (ab p.l k).s) (ab p.l k)),.z (HL (Al (ap r.T k) (ab p.l k).s) (ab p.l k)),.z (ab p.l k).sz]) (by
      rw[Wv,EV,EW,h5,eT];show d_Sta _ [Dt.z (ρ4.i 195),.z (ρ4.i 196),.z ((E.F .i64 (.get (.g 1) (.w 180) 3)).I ρ4)]=_;rw[hz,a1,a2]) trivial (fun e=> ?_)
     rw[show sP_vrun.F 12=c_tload.F from rfl,asu]at e;have eL:=auI e;have eE:ρ4.i 222=_:=auH e;clear e;have hv:BB p (ab p.l k) (ap r.T k)=(BU (BU (ap r.T k) (ab p.l k).d (DH (C5 (ab p.l k).sz))) (ab p.l k).d (C4 ρ4 213),ρ4.i 222):=by unfold BB;rw[aa J4,ae hk,ae hw];unfold Rj;rw[ae h3,eL,eE]
     refine⟨fun c9=> ?_,fun c9=> ?_⟩
     .have h0:ρ4.i 222=0:=Bs c9;refine aQ ⟨_,by rw[avh,EV,EW,h5,eT];rfl,?_⟩;rw[hv,h0]
     .have h0:ρ4.i 222≠0:=BM c9;show[Dt.l [],.l [],.z (ρ4.i 180),.z (ρ4.i 222)]=[.l (AK p).1,.l (AK p).2.1,.z (AK p).2.2.1,.z (AK p).2.2.2];rw[J0 _ (Lx _ _ hv h0) h0,F4.i]
    .have h3:¬(Al (ap r.T k) (ab p.l k).s).k=3:=BM (PF.symm.trans c3);refine aQ ⟨_,by rw[Wv,EV,EW,h5,eT];rfl,?_⟩;unfold BB;rw[aa J4,ae hk,ae hw];unfold Rj;rw[aa h3]
   .have hw:¬aG p.ctx (Al (ap r.T k) (ab p.l k).s) (ab p.l k).off (ab p.l k).sz=ZB:=by
     rw[a3.symm.trans cw];simp
    show[Dt.l [],.l [],.z (ρ4.i 180),.z 111]=[.l (AK p).1,.l (AK p).2.1,.z (AK p).2.2.1,.z (AK p).2.2.2];rw[J0 111 (Lx (ap r.T k) 111 (by unfold BB;rw[aa J4,ae hk,aa hw]) Os) Os,F4.i]
  ·
   have J4:(ab p.l k).k≠0:=BM ((kx ρ4 F4 0).symm.trans c0);have EX:(ab p.l k).k≠1:=BM ((kx ρ4 F4 1).symm.trans c1);have hk:(ab p.l k).k=2:=Bs ((kx ρ4 F4 2).symm.trans c2);refine⟨fun c=>Yr,fun _=>⟨fun _=> ?_,fun c=>Ys⟩⟩;refine aF (.z p.ctx::.l p.l::.l (E1 (ab p.l k))::d_Ty (Al (ap r.T k) (ab p.l k).d) []) (by
    show Dt.z (ρ4.i 0)::Dt.l (ρ4.l 1)::Dt.l ((E.lq .ln (.ins (.g 1) (.w 180) .nil)).R ρ4)::(E.tg (.get (.g 1) (.w 180) 5) (.g 178) (.w 180) 1 9 .nil).D ρ4=_;rw[Wt,PA,EV,EW,h5,GY,F4.c,F4.l];rfl) ⟨rfl,hl⟩ (fun e=> ?_)
   rw[show sP_vrun.F 9=c_vacc.F from rfl,aok]at e;have a1:ρ4.i 195=HM (Al (ap r.T k) (ab p.l k).d) (ab p.l k):=e.1;have a2:ρ4.i 196=HL (Al (ap r.T k) (ab p.l k).d) (ab p.l k):=e.2.1;have a3:ρ4.b 197=aG p.ctx (Al (ap r.T k) (ab p.l k).d) (ab p.l k).off (ab p.l k).sz:=e.2.2.1.trans (oP _);clear e;refine⟨fun cw=> ?_,fun cw=> ?_⟩
   .have hw:=a3.symm.trans cw;have hz:=z3 (wz hw);have PF:(E.eq (.nth (.get (.g 1) (.w 180) 5) (.sg (.g 178) (.w 180) 1 11)) (.p 3)).B ρ4=((Al (ap r.T k) (ab p.l k).d).k==3):=by
     show(((E.sg (.g 178) (.w 180) 1 11).L ρ4).getD ((E.get (.g 1) (.w 180) 5).I ρ4).toNat 0==3)=_;rw[show(E.sg (.g 178) (.w 180) 1 11).L ρ4=ig (ap (ρ4.l 178) (ρ4.i 180))from rfl,F4.T,F4.i,h5];rfl
    refine⟨fun c3=> ?_,fun c3=> ?_⟩
    .have h3:(Al (ap r.T k) (ab p.l k).d).k=3:=Bs (PF.symm.trans c3);refine aF (d_Sta (ap r.T k) (.z (HM (Al (ap r.T k) (ab p.l k).d) (ab p.l k))::.z (HL (Al (ap r.T k) (ab p.l k).d) (ab p.l k))::.z (ab p.l k).sz::d_Ty (Al (ap r.T k) (ab p.l k).s) [])) (by
      rw[SP,EV,EW];show d_Sta _ (Dt.z (ρ4.i 195)::.z (ρ4.i 196)::.z ((E.F .i64 (.get (.g 1) (.w 180) 3)).I ρ4)::(E.tg (.get (.g 1) (.w 180) 6) (.g 178) (.w 180) 1 9 .nil).D ρ4)=_;rw[PA,hz,a1,a2,EV,EW,h6];rfl) trivial (fun e=> ?_)
     rw[show sP_vrun.F 13=c_tstore.F from rfl,amA]at e;have eL:=Wi e;have eE:ρ4.i 369=_:=auJ e;clear e;have hv:BB p (ab p.l k) (ap r.T k)=(Dz ρ4 198,ρ4.i 369):=by unfold BB;rw[aa J4,aa EX,ae hk,ae hw];unfold Rn;rw[ae h3,eL,eE]
     refine⟨fun c9=> ?_,fun c9=> ?_⟩
     .have h0:ρ4.i 369=0:=Bs c9;refine aQ ⟨_,by rw[avg];rfl,?_⟩;rw[hv,h0]
     .have h0:ρ4.i 369≠0:=BM c9;show[Dt.l [],.l [],.z (ρ4.i 180),.z (ρ4.i 369)]=[.l (AK p).1,.l (AK p).2.1,.z (AK p).2.2.1,.z (AK p).2.2.2];rw[J0 _ (Lx _ _ hv h0) h0,F4.i]
    .have h3:¬(Al (ap r.T k) (ab p.l k).d).k=3:=BM (PF.symm.trans c3);refine aQ ⟨_,by rw[SP,EV,EW];rfl,?_⟩;unfold BB;rw[aa J4,aa EX,ae hk,ae hw];unfold Rn;rw[aa h3]
   .have hw:¬aG p.ctx (Al (ap r.T k) (ab p.l k).d) (ab p.l k).off (ab p.l k).sz=ZB:=by
     rw[a3.symm.trans cw];simp
    show[Dt.l [],.l [],.z (ρ4.i 180),.z 111]=[.l (AK p).1,.l (AK p).2.1,.z (AK p).2.2.1,.z (AK p).2.2.2];rw[J0 111 (Lx (ap r.T k) 111 (by unfold BB;rw[aa J4,aa EX,ae hk,aa hw]) Os) Os,F4.i]
  ·
   have hk:(ab p.l k).k=5:=Bs ((kx ρ4 F4 5).symm.trans c5);refine aF (xs:=[]) rfl trivial (fun e=> ?_);have eT:C4 ρ4 195=tscal:=xW e;refine aQ ⟨_,by rw[avi,EV,EW,eT],?_⟩;unfold BB;rw[aa Fn,aa Fn,aa Fn,ae hk];rfl
  .have J4:(ab p.l k).k≠0:=BM ((kx ρ4 F4 0).symm.trans c0);have EX:(ab p.l k).k≠1:=BM ((kx ρ4 F4 1).symm.trans c1);have Dj:(ab p.l k).k≠2:=BM ((kx ρ4 F4 2).symm.trans c2);have hk5:(ab p.l k).k≠5:=BM ((kx ρ4 F4 5).symm.trans c5);refine aQ ⟨_,by rw[SP,EV,EW];rfl,?_⟩;unfold BB;rw[aa J4,aa EX,aa Dj,aa hk5]
 intro ρ5 FP _ LN;obtain⟨s1,Bw,J7⟩:=LN;have hS5:Dz ρ5 195=s1:=ajd (r:=[]) (r':=[]) Bw;clear Bw;have F5:=F4.ag FP Os;have hB5:C4 ρ5 183=cA (ab p.l k) (ap r.T k):=(Rx FP Os).trans hB4;refine⟨fun c=>(by rw[(X5 ρ5 F5).1]at c;cases c),fun _=>⟨fun _=> ?_,fun c=>(by rw[(X5 ρ5 F5).2]at c;cases c)⟩⟩;have cae:(E.eq (.nth (.get (.g 1) (.w 180) 5) (.sv 195 11)) (.p 1)).B ρ5=((Al s1 (ab p.l k).d).k==1):=by show(((E.sv 195 11).L ρ5).getD ((E.get (.g 1) (.w 180) 5).I ρ5).toNat 0==1)=_;rw[show(E.sv 195 11).L ρ5=ig (Dz ρ5 195)from rfl,hS5,F5.X 5];rfl
 refine⟨fun ds=>ds=[.z (Ay (iq (ab p.l k) s1 (cA (ab p.l k) (ap r.T k))))],⟨fun c3=>⟨fun ca=>aQ ?_,fun ca=>aQ ?_⟩,fun c3=>aQ ?_⟩,?_⟩
 .show[Dt.z (Ay ((C4 ρ5 183).k==1))]=_;rw[hB5];unfold iq;rw[show((ab p.l k).k==3)=ZB from(kx ρ5 F5 3).symm.trans c3,cae.symm.trans ca];rfl
 .show[Dt.z (Ay ZC)]=_;unfold iq;rw[cae.symm.trans ca,Bool.false_and,Bool.and_false]
 .show[Dt.z (Ay ZC)]=_;unfold iq;rw[show((ab p.l k).k==3)=ZC from(kx ρ5 F5 3).symm.trans c3];rfl
 intro ρ6 Gt _ I5;have q6:ρ6.b 366=iq (ab p.l k) s1 (cA (ab p.l k) (ap r.T k)):=oq (Dt.z.inj (List.cons.inj I5).1);clear I5;have F6:=F5.ag Gt Os;have hS6:=(afF Gt Os).trans hS5;have hB6:C4 ρ6 183=cA (ab p.l k) (ap r.T k):=(Rx Gt Os).trans hB5;have f6:=(Gt 194 Os).2.1.symm.trans ((kB FP f4));have t16:=(Gt 192 Os).1.symm.trans ((FP 192 Os).1.symm.trans ((kI HV t1)));have t26:=(Gt 193 Os).2.1.symm.trans ((FP 193 Os).2.1.symm.trans ((kB HV t2)));have w6:(E.f .and .u64 (.w 177) (.f .sub .u64 (.w 177) (.p 1))).I ρ6=(jn r).w:=by simp only[E.I,F6.w];rfl
 have n6:(E.f .add .i64 (.w 180) (.p 1)).I ρ6=Ac .add .i64 (k:Int) 1:=by simp only[E.I,F6.i]
 have on:jd (ab p.l k)=ZB->0<=Ac .add .i64 (k:Int) 1/\Ac .add .i64 (k:Int) 1<(p.l.length:Int):=fun hf=>by obtain⟨k4,k6⟩:=vK hf;obtain⟨e1,e2⟩:=atl hl Ai Eh k4 k6;rw[e1];omega
 refine aF [.z (ab p.l k).op] (by
  show[Dt.z ((E.get (.g 1) (.w 180) 1).I ρ6)]=_;rw[F6.X 1];rfl) trivial (fun e=> ?_)
 have b7:ρ6.i 367=im (ab p.l k).op:=e.1;have b8:ρ6.b 368=gE (ab p.l k).op:=e.2.1.trans (oP _);clear e;refine⟨fun ds=>∃r1:VR,ds=[.z r1.w,.l r1.T,.l r1.g]/\r1=(gH k (ab p.l k) s1 (cA (ab p.l k) (ap r.T k))).foldl AN (jn r),?_,?_⟩
 .refine aeQ (kk:=fun w T g=>.next 6 (.cons w (.N T (.N g .nil)))) F6 hS6 hB6 MV w6 F6.T F6.g n6 on q3 f6 q6 b7 b8 (fun w' T' g' h1 h2 h3=>aQ ⟨_,?_,rfl⟩);simp only[E.D,h1,h2,h3]
 intro ρ7 K5 _ Iz;obtain⟨r1,Bw,ED⟩:=Iz;have hV1:VI p r1:=by rw[ED];exact VI.puts q3 _ MV (yA hl Ai Eh)
 rw[show varsD ρ7 369 _=[.z (ρ7.i 369),.l (ρ7.l 370),.l (ρ7.l 371)]from rfl]at Bw;simp only[AY,Dt.z.injEq,Dt.l.injEq,and_true]at Bw;have F7:=F6.ag K5 Os;refine aeO (kk:=fun w T g=>.next 0 (.cons (.w 180) (.cons (.f .add .i64 (.w 176) (.p 1)) (.cons w (.N T (.N g .nil)))))) F7 ((afF K5 Os).trans hS6) ((Rx K5 Os).trans hB6) hV1 Bw.1 Bw.2.1 Bw.2.2 ((kI K5 t16)) ((kB K5 t26)) (asI hl Ai Eh) q3 ((kB K5 q6)) (fun w' T' g' h1 h2 h3=> ?_);rw[ED]at h1 h2 h3;exact ahQ Os (aQ (GV s1 J7 ρ7 F7 w' T' g' h1 h2 h3))
def aqj{sp:Spec}{key:Nat}(hF:sp.F key=zu)(hP:sp.pre key=uB)(hH:∀w,sp.hw w->JA w:=by exact fun _ h=>h):SmOk Tryz.prog sp (zq key):=Uy (s:=zq key) (hW:=hH) hF hP (by kernel_rfl) ae3 (EK (vg rfl rfl)<|EK (alO rfl rfl)<|EK (ahb rfl)<|EK (atT rfl rfl)<|EK (avy rfl)<|EK (R5 rfl rfl)<|EK (R3 rfl rfl)<|EK (aul rfl rfl)<|EK (at2 rfl rfl)<|EK (at3 rfl rfl)<|EK (Wm rfl rfl)<|EK (qP rfl rfl)<|EK (ari rfl rfl)<|EK (alL rfl rfl)<|EK (atV rfl rfl)<|EK (atS rfl rfl)<|EK (alM rfl rfl)<|EK (arh rfl rfl) sm0) func6 (Da func15 (Da func42 (Da func43 FD))) aqc (.inr (.inl ⟨(fun xs h L hL=>by unfold uB at h;split at h<;>first|exact h.elim|(simp at hL;subst hL;exact h)),rfl⟩)) (fQ fun p gp=>fun hp=>ap8 p gp hp)
end Go.Proofs.YtgolejfhoefeaabGreatDoor
