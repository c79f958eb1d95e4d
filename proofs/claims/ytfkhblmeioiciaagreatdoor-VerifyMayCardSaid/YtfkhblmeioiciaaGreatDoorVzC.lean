import Derived.Test.YtfkhblmeioiciaaGreatDoorAgZ
import Derived.Test.YtfkhblmeioiciaaGreatDoorProg
import Derived.Laws.Externs
set_option maxRecDepth 100000
set_option maxHeartbeats 8000000
set_option linter.defProp false
set_option linter.unusedVariables false
set_option linter.unusedSimpArgs false
namespace Go.Proofs.YtfkhblmeioiciaaGreatDoor
open Go.RowKit Go.ChangeShapes Go.WideShapes
def yz:List C:=repC z_Ty 11++(repC z_Ty 8++[])
theorem aaj:Tryz.prog.eqGuardType Tryz.prog.depth 54=false:=by kernel_rfl
theorem avT:Kl Tryz.prog 7 51 (repC z_Ty 11):=Kl.array (d:=6) (fun vs hv=>asd vs hv) Tryz.underlying51 (by kernel_rfl) (by kernel_rfl)
theorem klA8:Kl Tryz.prog 7 52 (repC z_Ty 8):=Kl.array (d:=6) (fun vs hv=>asd vs hv) Tryz.underlying52 (by kernel_rfl) (by kernel_rfl)
theorem auC:Kl Tryz.prog 8 54 yz:=Kl.struct (KlSeq.cons avT (by rfl) (by kernel_rfl) (KlSeq.cons klA8 (by rfl) (by kernel_rfl) (KlSeq.nil _ _ _))) Tryz.underlying54 (by kernel_rfl) (by kernel_rfl)
theorem auZ (vs:List Value) (hv:aF vs yz):(Value.agg vs.toArray).formed Tryz.prog 54=true:=ajf Tryz.underlying54 (by kernel_rfl) vs hv
theorem ajm (vs us:List Value) (hv:aF vs yz) (hu:aF us yz) (w:World):(Op.equal 54 (.agg vs.toArray) (.agg us.toArray)).run Tryz.prog w=.ok (eqVs vs us) w:=
 eh (by kernel_rfl) auZ 8 (fun vs hv=>auC vs hv) vs us hv hu w
def tys_VzC:List (Nat×TI):=[(2,tiq2),
 (3,tiq3),
 (4,tiq4),
 (22,ac3),
 (24,ac2),
 (27,ac1),
 (30,apF),
 (31,apE),
 (33,apD),
 (37,gP),
 (39,yG),
 (42,fF),
 (44,gO),
 (46,kt),
 (48,dy),
 (50,qr),
 (51,si),
 (52,sf),
 (54,se),
 (66,apC),
 (92,⟨false,1,[.np],[],none,none,false,false,none,8,false,none,false,1⟩),
 (93,⟨true,64,[.np,.np,.np,.np,.np,.np,.np,.np,.np,.np,.np,.np,.np,.np,.np,.np,.np,.np,.np,.np,.np,.np,.np,.np,.np,.np,.np,.np,.np,.np,.np,.np,.np,.np,.np,.np,.np,.np,.np,.np,.np,.np,.np,.np,.np,.np,.np,.np,.np,.np,.np,.np,.np,.np,.np,.np,.np,.np,.np,.np,.np,.np,.np,.np],[],some (64,92),none,false,false,none,512,false,none,false,0⟩),
 (94,⟨true,64,(zN 64 2222222222222222222222222222222222222222222222222222222222222222),[],some (64,3),none,false,false,none,512,false,none,false,0⟩),
 (95,⟨true,1,[.int .u64 (.lit 0)],[],some (1,42),none,false,false,none,8,false,none,false,0⟩),
 (105,vP),
 (145,ans),
 (149,anr),
 (151,anq)]
theorem afc:(tys_VzC.all fun p=>ckTI Tryz.prog p.1 p.2)=true:=by kernel_rfl
theorem vB:(tys_VzC.all fun p=>!p.2.eqok||((Nat.beq p.1 39&&aN p.2.zero nO)||(Nat.beq p.1 48&&aN p.2.zero z_Sc)||(Nat.beq p.1 50&&aN p.2.zero z_Ty)||(Nat.beq p.1 54&&aN p.2.zero yz)))=true:=by kernel_rfl
theorem aeQ:(tys_VzC.all fun p=>!p.2.keyok)=true:=by kernel_rfl
theorem vn:∀t i,(t,i)∈tys_VzC->TIok Tryz.prog t i:=by
 intro t i h
 refine bB (cz (f:=ckTI Tryz.prog) afc h) (fun he=> ?_) (fun he=> ?_) (fun he=> ?_)
 ·have h1:=thm7.1 vB (t,i) h
  simp only[he,Bool.not_true,Bool.false_or,bH,thm0] at h1
  rcases h1 with((h1 | h1) | h1) | h1
  ·have hs:=h1.2
   obtain rfl:=thm1 h1.1
   exact fun vs us hv hu=>pY vs us (an hs hv) (an hs hu)
  ·have hs:=h1.2
   obtain rfl:=thm1 h1.1
   exact fun vs us hv hu=>qy vs us (an hs hv) (an hs hu)
  ·have hs:=h1.2
   obtain rfl:=thm1 h1.1
   exact fun vs us hv hu=>qx vs us (an hs hv) (an hs hu)
  ·have hs:=h1.2
   obtain rfl:=thm1 h1.1
   exact fun vs us hv hu=>ajm vs us (an hs hv) (an hs hu)
 ·have h1:=thm7.1 vB (t,i) h
  simp only[he,Bool.not_true,Bool.false_or,bH,thm0] at h1
  rcases h1 with((h1 | h1) | h1) | h1
  ·have hs:=h1.2
   obtain rfl:=thm1 h1.1
   exact jY
  ·have hs:=h1.2
   obtain rfl:=thm1 h1.1
   exact jv
  ·have hs:=h1.2
   obtain rfl:=thm1 h1.1
   exact ju
  ·have hs:=h1.2
   obtain rfl:=thm1 h1.1
   exact aaj
 ·have h1:=thm7.1 aeQ (t,i) h
  simp[he] at h1
def tx (key:Nat):Sm:=⟨78,key,[.agg kSc],[.agg kTy],false⟩
def agh (s:Sc):List Dt:=d_Ty (ty 1 s 0 0) ([])
def dO:List Dt->List Dt
 | [.z x0,.z x1,.z x2,.z x3,.z x4,.z x5]=>agh ⟨x0,x1,x2,x3,x4,x5⟩
 | _=>[]
def sT_vsca:Tr:=
(.leaf (.cons (.lit 1) (.vs 0 6 (.cons (.lit 0) (.cons (.lit 0) .nil)))))
def agM:Spec:={F:=fun k=>match k with | _=>fun _=>[],pre:=fun _ _=>True}
theorem aqD:ap tys_VzC [] [] [] [] 200 Tryz.f78 [.agg kSc] [.agg kTy] false [.int .u64,.int .u64,.int .i64,.int .i64,.int .u64,.int .u64] sT_vsca:=⟨by kernel_rfl,by kernel_rfl,by kernel_rfl⟩
theorem apV (s:Sc) (hs:Sc.ok s) (U:Env) (g:varsD U 0 [.int .u64,.int .u64,.int .i64,.int .i64,.int .u64,.int .u64]=[.z s.ul,.z s.uh,.z s.sl,.z s.sh,.z s.v,.z s.m]):sT_vsca.asks agM (fun U e=>e.D U=dO [.z s.ul,.z s.uh,.z s.sl,.z s.sh,.z s.v,.z s.m]) U fun _ _=>False:=by
 simp only[d_Ty,v_Ty,varsD,varD,thm5,gS0,Nat.reduceAdd,and_true] at g
 simp only[sT_vsca,agM,d_Ty,dO,agh,simQ,ai,S1,Nat.reduceSub,Nat.reduceAdd,-eq_self,am,Prog.eta,Ins.eta,af,ah,g]
 ·rfl
theorem ahD {sp:Spec} {key:Nat} (hF:sp.F key=dO) (hP:sp.pre key=fun _=>True:=by rfl):SmOk Tryz.prog sp (tx key):=
 aq (s:=tx key) hF hP (by kernel_rfl) vn (sm0) Tryz.func78 fn0 aqD (.inl rfl) (fun x0 gx0 x1 gx1 x2 gx2 x3 gx3 x4 gx4 x5 gx5 hp U g=>apV ⟨x0,x1,x2,x3,x4,x5⟩ ⟨gx0,gx1,gx2,gx3,gx4,gx5⟩ U g)
def tA (key:Nat):Sm:=⟨12,key,[.agg lG],[.agg [.sl [none] 4,.sl (kN 171 221122110221122110221122110221122110221122110221122110221122110221122110221122110221122110221122110221122110221122110221122110221122110221122110221122110221122110221122110) 54],.one (.int .i64),.one (.int .i64)],true⟩
def aqz (p:Prog):List Dt:=[.l (vrun p).1,.l (vrun p).2.1,.z ((vrun p).2.2.1),.z ((vrun p).2.2.2)]
def ug:List Dt->List Dt
 | [.z x0,.l x1]=>aqz ⟨x0,x1⟩
 | _=>[]
def sT_vrun:Tr:=
(.call 0 [.int .i64,.int .i64] (.cons (.var 0) (.cL (.lw 1) .nil)) 2
(.br (.eq (.var 3) (.lit 0))
(.call 1 (kSta) .nil 4
(.loop 0 175 [.int .i64,.int .i64,.int .u64,.list (kN 172 2211221102211221102211221102211221102211221102211221102211221102211221102211221102211221102211221102211221102211221102211221102211221102211221102211221102211221102211221109),.list [some .i64]] (.zs [0,0,1] (.cL (.lput (.lrep (.lit 64) (.cb (.tt false) (.zr 171 .nil))) (.lit 0) (.cb (.tt true) (.vs 4 171 .nil))) (.cL (.lrep (.lit 64) (.cons (.lit 0) .nil)) .nil)))
(.br (.eq (.var 177) (.lit 0))
(.loop 1 180 [.int .i64,.list [none],.list (kN 171 221122110221122110221122110221122110221122110221122110221122110221122110221122110221122110221122110221122110221122110221122110221122110221122110221122110221122110221122110),.list (kN 172 2211221102211221102211221102211221102211221102211221102211221102211221102211221102211221102211221102211221102211221102211221102211221102211221102211221102211221102211221109)] (.cons (.lit 0) (.cL .ln (.cL .ln (.cL (.lw 178) .nil))))
(.br (.lt (.var 180) (.len (.lw 1)))
(.br (.lt (.var 180) (.lit 0))
.panic
(.br (.lt (.var 180) (.lit 64))
(.br (.lt (.var 180) (.len (.lw 183)))
(.br (.getb (.lw 183) (.var 180) 0)
(.br (.lt (.len (.lw 181)) (.lit 1073741824))
(.br (.lt (.len (.lw 182)) (.lit 1073741824))
(.next 1 (.cons (.bin .add .i64 (.var 180) (.lit 1)) (.cL (.lq (.lw 181) (.cb (.tt true) .nil)) (.cL (.lq (.lw 182) (.gs (.lw 183) (.var 180) 1 171 .nil)) (.cL (.lw 183) .nil)))))
.panic)
.panic)
(.br (.lt (.len (.lw 181)) (.lit 1073741824))
(.br (.lt (.len (.lw 182)) (.lit 1073741824))
(.next 1 (.cons (.bin .add .i64 (.var 180) (.lit 1)) (.cL (.lq (.lw 181) (.cb (.tt false) .nil)) (.cL (.lq (.lw 182) (.zr 171 .nil)) (.cL (.lput (.lw 183) (.var 180) (.cb (.tt true) (.zr 171 .nil))) .nil)))))
.panic)
.panic))
(.stuck 270))
.panic))
(.leaf (.cL (.lw 181) (.cL (.lw 182) (.cons (.lit 0) (.cons (.lit 0) .nil)))))))
(.br (.eq (.var 176) (.lit 2000))
(.leaf (.cL .ln (.cL .ln (.cons (.var 175) (.cons (.lit 112) .nil)))))
(.call 2 [.int .i64] (.cons (.var 177) .nil) 180
(.br (.lt (.var 180) (.lit 0))
.panic
(.br (.lt (.var 180) (.lit 64))
(.br (.lt (.var 180) (.len (.lw 178)))
(.br (.getb (.lw 178) (.var 180) 0)
(.br (.lt (.var 180) (.len (.lw 1)))
(.call 3 [.int .i64] (.ins (.lw 1) (.var 180) .nil) 181
(.loop 1 182 [.int .i64] (.cons (.var 181) .nil)
(.br (.lt (.lit 0) (.var 182))
(.call 4 [.int .i64] (.cons (.conv .u64 (.var 182)) .nil) 183
(.br (.lt (.var 183) (.lit 0))
.panic
(.br (.lt (.var 183) (.lit 11))
(.br (.eq (.nth (.var 183) (.sg (.lw 178) (.var 180) 1 11)) (.lit 0))
(.leaf (.cL .ln (.cL .ln (.cons (.var 180) (.cons (.lit 110) .nil)))))
(.next 1 (.cons (.bin .and .i64 (.var 182) (.bin .sub .i64 (.var 182) (.lit 1))) .nil)))
.panic)))
(.br (.lt (.get (.lw 1) (.var 180) 6) (.lit 0))
.panic
(.br (.lt (.get (.lw 1) (.var 180) 6) (.lit 11))
(.cut 2 183 [.int .i8,.int .u64,.int .u64,.int .i64,.int .i64,.int .u64,.int .u64,.int .i64,.int .i64]
(.br (.getb (.lw 1) (.var 180) 4)
(.next 2 (.tg (.get (.lw 1) (.var 180) 6) (.lw 178) (.var 180) 1 9 .nil))
(.call 6 (kSc) (.cons (.conv .u64 (.get (.lw 1) (.var 180) 8)) .nil) 183
(.call 15 (kTy) (.vs 183 6 .nil) 189
(.next 2 (.vs 189 9 .nil)))))
(.call 5 [.int .i64,.bool] (.cons (.var 180) (.ins (.lw 1) (.var 180) .nil)) 192
(.cut 3 194 [.bool]
(.br (.eq (.get (.lw 1) (.var 180) 0) (.lit 4))
(.next 3 (.cb (.tt false) .nil))
(.next 3 (.cb (.not (.eq (.get (.lw 1) (.var 180) 0) (.lit 6))) .nil)))
(.cut 4 195 [.int .i8,.int .u64,.int .u64,.int .i64,.int .i64,.int .u64,.int .u64,.int .i64,.int .i64,.int .i8,.int .u64,.int .u64,.int .i64,.int .i64,.int .u64,.int .u64,.int .i64,.int .i64,.int .i8,.int .u64,.int .u64,.int .i64,.int .i64,.int .u64,.int .u64,.int .i64,.int .i64,.int .i8,.int .u64,.int .u64,.int .i64,.int .i64,.int .u64,.int .u64,.int .i64,.int .i64,.int .i8,.int .u64,.int .u64,.int .i64,.int .i64,.int .u64,.int .u64,.int .i64,.int .i64,.int .i8,.int .u64,.int .u64,.int .i64,.int .i64,.int .u64,.int .u64,.int .i64,.int .i64,.int .i8,.int .u64,.int .u64,.int .i64,.int .i64,.int .u64,.int .u64,.int .i64,.int .i64,.int .i8,.int .u64,.int .u64,.int .i64,.int .i64,.int .u64,.int .u64,.int .i64,.int .i64,.int .i8,.int .u64,.int .u64,.int .i64,.int .i64,.int .u64,.int .u64,.int .i64,.int .i64,.int .i8,.int .u64,.int .u64,.int .i64,.int .i64,.int .u64,.int .u64,.int .i64,.int .i64,.int .i8,.int .u64,.int .u64,.int .i64,.int .i64,.int .u64,.int .u64,.int .i64,.int .i64,.int .i8,.int .u64,.int .u64,.int .i64,.int .i64,.int .u64,.int .u64,.int .i64,.int .i64,.int .i8,.int .u64,.int .u64,.int .i64,.int .i64,.int .u64,.int .u64,.int .i64,.int .i64,.int .i8,.int .u64,.int .u64,.int .i64,.int .i64,.int .u64,.int .u64,.int .i64,.int .i64,.int .i8,.int .u64,.int .u64,.int .i64,.int .i64,.int .u64,.int .u64,.int .i64,.int .i64,.int .i8,.int .u64,.int .u64,.int .i64,.int .i64,.int .u64,.int .u64,.int .i64,.int .i64,.int .i8,.int .u64,.int .u64,.int .i64,.int .i64,.int .u64,.int .u64,.int .i64,.int .i64,.int .i8,.int .u64,.int .u64,.int .i64,.int .i64,.int .u64,.int .u64,.int .i64,.int .i64,.int .i8,.int .u64,.int .u64,.int .i64,.int .i64,.int .u64,.int .u64,.int .i64,.int .i64]
(.br (.eq (.get (.lw 1) (.var 180) 0) (.lit 0))
(.br (.lt (.get (.lw 1) (.var 180) 5) (.lit 0))
.panic
(.br (.lt (.get (.lw 1) (.var 180) 5) (.lit 11))
(.call 8 (kTy) (.cL (.lq .ln (.ins (.lw 1) (.var 180) .nil)) (.tg (.get (.lw 1) (.var 180) 5) (.lw 178) (.var 180) 1 9 (.vs 183 9 .nil))) 195
(.next 4 (.rg (.get (.lw 1) (.var 180) 5) (.vs 195 9 .nil) (.gs (.lw 178) (.var 180) 1 99 .nil) (.gs (.lw 178) (.var 180) 100 72 .nil))))
.panic))
(.br (.eq (.get (.lw 1) (.var 180) 0) (.lit 1))
(.call 9 [.int .i64,.int .i64,.bool] (.cons (.var 0) (.cL (.lw 1) (.cL (.lq .ln (.ins (.lw 1) (.var 180) .nil)) (.tg (.get (.lw 1) (.var 180) 6) (.lw 178) (.var 180) 1 9 .nil)))) 195
(.br (.bw 197)
(.call 10 (kSc) (.cons (.conv .i64 (.get (.lw 1) (.var 180) 3)) .nil) 198
(.call 15 (kTy) (.vs 198 6 .nil) 204
(.br (.lt (.get (.lw 1) (.var 180) 5) (.lit 0))
.panic
(.br (.lt (.get (.lw 1) (.var 180) 5) (.lit 11))
(.br (.eq (.nth (.get (.lw 1) (.var 180) 6) (.sg (.lw 178) (.var 180) 1 11)) (.lit 3))
(.call 12 (kTy++[.int .i64]) (.rg (.get (.lw 1) (.var 180) 5) (.vs 204 9 .nil) (.gs (.lw 178) (.var 180) 1 99 .nil) (.gs (.lw 178) (.var 180) 100 72 (.vs 195 2 (.cons (.conv .i64 (.get (.lw 1) (.var 180) 3)) .nil)))) 213
(.br (.eq (.var 222) (.lit 0))
(.next 4 (.rg (.get (.lw 1) (.var 180) 5) (.vs 213 9 .nil) (.rg (.get (.lw 1) (.var 180) 5) (.vs 204 9 .nil) (.gs (.lw 178) (.var 180) 1 99 .nil) .nil) (.gs (.lw 178) (.var 180) 100 72 .nil)))
(.leaf (.cL .ln (.cL .ln (.cons (.var 180) (.cons (.var 222) .nil)))))))
(.next 4 (.rg (.get (.lw 1) (.var 180) 5) (.vs 204 9 .nil) (.gs (.lw 178) (.var 180) 1 99 .nil) (.gs (.lw 178) (.var 180) 100 72 .nil))))
.panic))))
(.leaf (.cL .ln (.cL .ln (.cons (.var 180) (.cons (.lit 111) .nil)))))))
(.br (.eq (.get (.lw 1) (.var 180) 0) (.lit 2))
(.br (.lt (.get (.lw 1) (.var 180) 5) (.lit 0))
.panic
(.br (.lt (.get (.lw 1) (.var 180) 5) (.lit 11))
(.call 9 [.int .i64,.int .i64,.bool] (.cons (.var 0) (.cL (.lw 1) (.cL (.lq .ln (.ins (.lw 1) (.var 180) .nil)) (.tg (.get (.lw 1) (.var 180) 5) (.lw 178) (.var 180) 1 9 .nil)))) 195
(.br (.bw 197)
(.br (.eq (.nth (.get (.lw 1) (.var 180) 5) (.sg (.lw 178) (.var 180) 1 11)) (.lit 3))
(.call 13 (kSta++[.int .i64]) (.gs (.lw 178) (.var 180) 1 171 (.vs 195 2 (.cons (.conv .i64 (.get (.lw 1) (.var 180) 3)) (.tg (.get (.lw 1) (.var 180) 6) (.lw 178) (.var 180) 1 9 .nil)))) 198
(.br (.eq (.var 369) (.lit 0))
(.next 4 (.vs 198 171 .nil))
(.leaf (.cL .ln (.cL .ln (.cons (.var 180) (.cons (.var 369) .nil)))))))
(.next 4 (.gs (.lw 178) (.var 180) 1 171 .nil)))
(.leaf (.cL .ln (.cL .ln (.cons (.var 180) (.cons (.lit 111) .nil)))))))
.panic))
(.br (.eq (.get (.lw 1) (.var 180) 0) (.lit 5))
(.call 11 (kTy) .nil 195
(.next 4 (.vs 195 9 (.zr 45 (.gs (.lw 178) (.var 180) 55 117 .nil)))))
(.next 4 (.gs (.lw 178) (.var 180) 1 171 .nil))))))
(.br (.lt (.get (.lw 1) (.var 180) 5) (.lit 0))
.panic
(.br (.lt (.get (.lw 1) (.var 180) 5) (.lit 11))
(.cut 5 366 [.bool]
(.br (.eq (.get (.lw 1) (.var 180) 0) (.lit 3))
(.br (.eq (.nth (.get (.lw 1) (.var 180) 5) (.sv 195 11)) (.lit 1))
(.next 5 (.cb (.eq (.var 183) (.lit 1)) .nil))
(.next 5 (.cb (.tt false) .nil)))
(.next 5 (.cb (.tt false) .nil)))
(.call 7 [.int .i8,.bool] (.cons (.get (.lw 1) (.var 180) 1) .nil) 367
(.cut 6 369 [.int .u64,.list (kN 172 2211221102211221102211221102211221102211221102211221102211221102211221102211221102211221102211221102211221102211221102211221102211221102211221102211221102211221102211221109),.list [some .i64]]
(.br (.bw 194)
(.br (.bw 366)
(.br (.bw 368)
(.call 14 (kSc++[.bool]) (.cons (.var 367) (.tn (.get (.lw 1) (.var 180) 5) 196 6 (.vs 184 6 .nil))) 369
(.br (.bw 375)
(.call 15 (kTy) (.vs 369 6 .nil) 376
(putT (.bin .add .i64 (.var 180) (.lit 1)) (fun t=>(.rg (.get (.lw 1) (.var 180) 5) (.vs 376 9 .nil) (.vs 195 99 .nil) (.vs 294 72 t))) (.bin .and .u64 (.var 177) (.bin .sub .u64 (.var 177) (.lit 1))) (.lw 178) (.lw 179) 385 (fun w T g=>.next 6 (.cons w (.cL T (.cL g .nil))))))
(.next 6 (.cons (.bin .and .u64 (.var 177) (.bin .sub .u64 (.var 177) (.lit 1))) (.cL (.lw 178) (.cL (.lw 179) .nil))))))
(putT (.bin .add .i64 (.var 180) (.lit 1)) (fun t=>(.vs 195 171 t)) (.bin .and .u64 (.var 177) (.bin .sub .u64 (.var 177) (.lit 1))) (.lw 178) (.lw 179) 369 (fun w T g=>.next 6 (.cons w (.cL T (.cL g .nil))))))
(putT (.bin .add .i64 (.var 180) (.lit 1)) (fun t=>(.vs 195 171 t)) (.bin .and .u64 (.var 177) (.bin .sub .u64 (.var 177) (.lit 1))) (.lw 178) (.lw 179) 369 (fun w T g=>.next 6 (.cons w (.cL T (.cL g .nil))))))
(.next 6 (.cons (.bin .and .u64 (.var 177) (.bin .sub .u64 (.var 177) (.lit 1))) (.cL (.lw 178) (.cL (.lw 179) .nil)))))
(.br (.bw 193)
(.br (.bw 366)
(.call 14 (kSc++[.bool]) (.cons (.get (.lw 1) (.var 180) 1) (.tn (.get (.lw 1) (.var 180) 5) 196 6 (.vs 184 6 .nil))) 372
(.br (.bw 378)
(.call 15 (kTy) (.vs 372 6 .nil) 379
(putT (.var 192) (fun t=>(.rg (.get (.lw 1) (.var 180) 5) (.vs 379 9 .nil) (.vs 195 99 .nil) (.vs 294 72 t))) (.var 369) (.lw 370) (.lw 371) 388 (fun w T g=>.next 0 (.cons (.var 180) (.cons (.bin .add .i64 (.var 176) (.lit 1)) (.cons w (.cL T (.cL g .nil))))))))
(.next 0 (.cons (.var 180) (.cons (.bin .add .i64 (.var 176) (.lit 1)) (.cons (.var 369) (.cL (.lw 370) (.cL (.lw 371) .nil))))))))
(putT (.var 192) (fun t=>(.vs 195 171 t)) (.var 369) (.lw 370) (.lw 371) 372 (fun w T g=>.next 0 (.cons (.var 180) (.cons (.bin .add .i64 (.var 176) (.lit 1)) (.cons w (.cL T (.cL g .nil))))))))
(.next 0 (.cons (.var 180) (.cons (.bin .add .i64 (.var 176) (.lit 1)) (.cons (.var 369) (.cL (.lw 370) (.cL (.lw 371) .nil))))))))))
.panic))))))
.panic)))))
.panic)
.panic)
(.stuck 270))
.panic)))))))
(.leaf (.cL .ln (.cL .ln (.vs 2 2 .nil))))))
def sP_vrun:Spec:={F:=fun k=>match k with | 0=>ir | 1=>io | 2=>ph | 3=>mS | 4=>ah3 | 5=>fw | 6=>dc | 7=>pw | 8=>ig | 9=>fv | 10=>gK | 11=>bQ | 12=>dz | 13=>cD | 14=>ic | 15=>dO | 16=>ey | 17=>gk | _=>fun _=>[],pre:=fun k=>match k with | 0=>fJ | 8=>mf | 9=>mg | _=>fun _=>True,hw:=sHw,hx:=sHx,hi:=sHi}
theorem aqE:ap tys_VzC [kF 0,kD 1,zu 2,abF 3,alV 4,oP 5,jG 6,ue 7,tH 8,tI 9,qP 10,dX 11,nB 12,kC 13,tD 14,tx 15,oI 16,tM 17] [(38,Tryz.f38,[(3,[.tmpI 9 .i64]++tps [(6,2),(36,14)]),(999999,[]),(999998,[])],[(10,[.cels 11 0 (kN 9 221122110)]++tps [(57,12)]),(12,[.tmpX 13 [none] 4]++tps [(77,12)]),(37,[.cels 9 0 (kN 171 221122110221122110221122110221122110221122110221122110221122110221122110221122110221122110221122110221122110221122110221122110221122110221122110221122110221122110221122110)]++tps [(6,2),(14,8),(89,129)]),(39,[.tmpX 23 [none] 4]++tps [(225,15)])]),(86,Tryz.f86,[(999999,[]),(999998,[])],[(3,[.cI 6 0 .u64,.row 3,.row 4]++tps [(15,10)])]),(87,Tryz.f87,[(999999,[]),(999998,[])],[])] [(11,[.tmpI 10 .i64,.tmpI 12 .i64,.cI 6 0 .u64,.row 3,.row 4]++tps [(3,2),(13,6),(34,36),(71,45)]),(35,[.tmpI 119 .i64,.cT 7 0 [none] 4,.cT 7 1 (kN 171 221122110221122110221122110221122110221122110221122110221122110221122110221122110221122110221122110221122110221122110221122110221122110221122110221122110221122110221122110) 54,.row 3]++tps [(20,1),(120,30)]),(999999,[]),(999997,[]),(999995,[.tmpS 93 (kN 171 221122110221122110221122110221122110221122110221122110221122110221122110221122110221122110221122110221122110221122110221122110221122110221122110221122110221122110221122110) 54]),(999994,[.only [54,66]]),(999993,[.only [94]])] [] 200 Tryz.f12 [.agg lG] [.agg [.sl [none] 4,.sl (kN 171 221122110221122110221122110221122110221122110221122110221122110221122110221122110221122110221122110221122110221122110221122110221122110221122110221122110221122110221122110) 54],.one (.int .i64),.one (.int .i64)] true [.int .i64,.list (kN 9 220090000)] sT_vrun:=⟨by kernel_rfl,by kernel_rfl,by kernel_rfl⟩
def oC:List Dt->Prop
 | [.z x0,.l x1]=>let f (p:Prog):Prop:=p.l.length<=maxLen;f ⟨x0,x1⟩
 | _=>False
theorem avp (x:Ins):mS (aas x [])=[.z (vrd x)]:=by
 show[Dt.z (vrd ⟨x.k,x.op,x.w,x.sz,b2i x.br==1,x.d,x.s,x.off,x.imm⟩)]=_
 rw[b2i_one]
theorem aoF (i:Int) (x:Ins):fw (.z i::aas x [])=[.z (itgt i x).1,.z (b2i (itgt i x).2)]:=by
 show[Dt.z (itgt i ⟨x.k,x.op,x.w,x.sz,b2i x.br==1,x.d,x.s,x.off,x.imm⟩).1,.z (b2i (itgt i ⟨x.k,x.op,x.w,x.sz,b2i x.br==1,x.d,x.s,x.off,x.imm⟩).2)]=_
 rw[b2i_one]
theorem aoC (x:Ins) (a b:Ty):ig (.l (insR x)::d_Ty a (d_Ty b []))=d_Ty (valu x a b) []:=by
 show d_Ty (valu (ab (insR x) 0) a b) []=_
 rw[ai0]
theorem acU (c:Int) (l:List (List Int)) (x:Ins) (t:Ty):fv (.z c::.l l::.l (insR x)::d_Ty t [])=[.z (alo t x),.z (ahi t x),.z (b2i (aB c t x.off x.sz))]:=by
 show[Dt.z (opI .add .i64 t.lo (ab (insR x) 0).off),.z (opI .add .i64 t.hi (ab (insR x) 0).off),.z (b2i (aB c t (ab (insR x) 0).off (ab (insR x) 0).sz))]=_
 rw[ai0];rfl
theorem ajX (s:Sta) (lo hi z:Int):dz (av s [.z lo,.z hi,.z z])=d_Ty (od s lo hi z) [.z (sC s lo hi z)]:=by
 unfold dz
 rw[bp];rfl
theorem acV (s:Sta) (lo hi z:Int) (t:Ty):cD (av s (.z lo::.z hi::.z z::d_Ty t []))=av (gV s lo hi z t) [.z (oa s lo hi z t)]:=by
 unfold cD
 rw[bp];rfl
theorem aoE (a c:Sta):ey (av a (av c []))=av (jF false a c) [.z (serr a c)]:=by
 unfold ey
 rw[bp,bp];rfl
theorem avo (a c:Sta):gk (av a (av c []))=av (jF true a c) [.z (serr a c)]:=by
 unfold gk
 rw[bp,bp];rfl
structure RF (p:Prog) (visits:Int) (r:VR) (k:Nat) (U:Env):Prop where
 l:U.l 1=p.l
 c:U.i 0=p.ctx
 v:U.i 176=visits
 w:U.i 177=r.w
 T:U.l 178=r.T
 g:U.l 179=r.g
 i:U.i 180=(k:Int)
theorem RF.ag {p:Prog} {visits:Int} {r:VR} {k n:Nat} {U U':Env} (h:RF p visits r k U) (ha:Ag n U U') (hn:181<=n):RF p visits r k U':=
 ⟨(ha 1 (by omega)).2.2.symm.trans h.l,(ha 0 (by omega)).1.symm.trans h.c,(ha 176 (by omega)).1.symm.trans h.v,(ha 177 (by omega)).1.symm.trans h.w,(ha 178 (by omega)).2.2.symm.trans h.T,(ha 179 (by omega)).2.2.symm.trans h.g,(ha 180 (by omega)).1.symm.trans h.i⟩
theorem RF.X {p:Prog} {visits:Int} {r:VR} {k:Nat} {U:Env} (h:RF p visits r k U) (c:Nat):(E.get (.lw 1) (.var 180) c).I U=gt p.l k c:=by
 simp only[E.I,E.R,h.l,h.i]
theorem avY {k:Nat} (h:k<64):opI .add .i64 (k:Int) 1=((k+1:Nat):Int):=by
 show IntKind.i64.wrap _=_
 rw[aR];omega
def dSc (s:Sc) (t:List Dt):List Dt:=.z s.ul::.z s.uh::.z s.sl::.z s.sh::.z s.v::.z s.m::t
def scV (U:Env) (n:Nat):Sc:=⟨U.i n,U.i (n+1),U.i (n+2),U.i (n+3),U.i (n+4),U.i (n+5)⟩
def kSc6:List CK:=[.int .u64,.int .u64,.int .i64,.int .i64,.int .u64,.int .u64]
theorem yu (U:Env) (n:Nat) (t:E):(E.vs n 6 t).D U=dSc (scV U n) (t.D U):=by kernel_rfl
theorem avs (U:Env) (e:E) (n:Nat) (t:E):(E.tn e (n+1) 6 t).D U=dSc (tnth (staV U n) (e.I U)).s (t.D U):=by kernel_rfl
theorem as4 (U:Env) (n:Nat):scV U (n+1)=(tyV U n).s:=by kernel_rfl
theorem adI {U:Env} {s:Sc} {r:List Dt} {v0:Nat} {ks:List CK} (h:eqs U (dSc s r) v0 0 (kSc6++ks)):scV U v0=s/\eqs U (dSc s r) v0 6 ks:=by
 obtain⟨h0,h1,h2,h3,h4,h5,h6⟩:=h
 refine⟨?_,h6⟩
 have e0:U.i v0=s.ul:=h0
 have e1:U.i (v0+1)=s.uh:=h1
 have e2:U.i (v0+2)=s.sl:=h2
 have e3:U.i (v0+3)=s.sh:=h3
 have e4:U.i (v0+4)=s.v:=h4
 have e5:U.i (v0+5)=s.m:=h5
 unfold scV
 rw[e0,e1,e2,e3,e4,e5]
theorem aoB (cc:Int) (a b:Sc):ic (.z cc::dSc a (dSc b []))=dSc (vgiv cc a b) [.z (b2i (vgok cc a b))]:=rfl
theorem rK (s:Sc):dO (dSc s [])=d_Ty (tsc s) []:=rfl
theorem avq (q:Int):gK [.z q]=dSc (vbyt q) []:=rfl
theorem aoA (q:Int):dc [.z q]=dSc (vone q) []:=rfl
def apG (cc n:E) (w T g:E) (v:Nat) (k:E->E->E->Tr):Tr:=
 .call 14 (kSc6++[.bool]) (.cons cc (.tn (.get (.lw 1) (.var 180) 5) 196 6 (.vs 184 6 .nil))) v
  (.br (.bw (v+6))
   (.call 15 kTy (.vs v 6 .nil) (v+7)
    (putT n (fun t=>.rg (.get (.lw 1) (.var 180) 5) (.vs (v+7) 9 .nil) (.vs 195 99 .nil) (.vs 294 72 t)) w T g (v+16) k))
   (k w T g))
section
variable {G:Env->E->Prop} {U:Env} {I:Nat->List Dt->Prop} {p:Prog} {visits:Int} {r r1:VR} {k:Nat} {s1:Sta} {b:Ty} {n w T g cc:E} {v:Nat} {m c:Int} {kk:E->E->E->Tr}
theorem qC (F:RF p visits r k U) (hS:staV U 195=s1) (hB:tyV U 183=b) (h:VI p r1) (hw:w.I U=r1.w) (hT:T.R U=r1.T) (hg:g.R U=r1.g) (hn:n.I U=m) (hm:0<=m/\m<(p.l.length:Int)) (hl:p.l.length<=64) (hc:cc.I U=c)
  (hk:∀w' T' g':E,w'.I U=((vway s1 (ab p.l k).d (tnth s1 (ab p.l k).d) b true m c true).foldl vput r1).w->T'.R U=((vway s1 (ab p.l k).d (tnth s1 (ab p.l k).d) b true m c true).foldl vput r1).T->g'.R U=((vway s1 (ab p.l k).d (tnth s1 (ab p.l k).d) b true m c true).foldl vput r1).g->(kk w' T' g').asks sP_vrun G U I):(apG cc n w T g v kk).asks sP_vrun G U I:=by
 have hX:(E.get (.lw 1) (.var 180) 5).I U=(ab p.l k).d:=F.X 5
 refine ar (.z c::dSc (tnth s1 (ab p.l k).d).s (dSc b.s [])) (by
  show Dt.z (cc.I U)::(E.tn (.get (.lw 1) (.var 180) 5) (195+1) 6 (.vs (183+1) 6 .nil)).D U=_
  rw[avs,yu,hS,hX,hc,as4,hB];rfl) trivial (fun e=> ?_)
 rw[show sP_vrun.F 14=ic from rfl,aoB] at e
 obtain⟨e1,e2,_⟩:=adI e
 have e3:U.b (v+6)=vgok c (tnth s1 (ab p.l k).d).s b.s:=e2.trans (eQ _)
 refine⟨fun c0=> ?_,fun c0=> ?_⟩
 ·have hok:vgok c (tnth s1 (ab p.l k).d).s b.s=true:=e3.symm.trans c0
  refine ar (dSc (vgiv c (tnth s1 (ab p.l k).d).s b.s) []) (by rw[yu,e1];rfl) trivial (fun e=> ?_)
  rw[show sP_vrun.F 15=dO from rfl,rK] at e
  have eT:=jw e
  refine xx (s:=sreg s1 (ab p.l k).d (tsc (vgiv c (tnth s1 (ab p.l k).d).s b.s))) avo aoE (fun _=>trivial) (fun _=>trivial) h hw hT hg hn hm hl (fun t=> ?_) ?_ ?_
  ·rw[anc (n:=195),hS,hX,eT]
  ·rw[asF (n:=195),hS,hX,eT]
  ·have hv:vway s1 (ab p.l k).d (tnth s1 (ab p.l k).d) b true m c true=[(m,sreg s1 (ab p.l k).d (tsc (vgiv c (tnth s1 (ab p.l k).d).s b.s)))]:=by
    unfold vway;rw[if_pos (by rfl),if_pos hok]
   rw[hv] at hk
   exact hk
 ·have hok:¬vgok c (tnth s1 (ab p.l k).d).s b.s=true:=by
   rw[<-e3];intro h9;rw[show(E.bw (v+6)).B U=U.b (v+6) from rfl,h9] at c0;cases c0
  have hv:vway s1 (ab p.l k).d (tnth s1 (ab p.l k).d) b true m c true=[]:=by
   unfold vway;rw[if_pos (by rfl),if_neg hok]
  rw[hv] at hk
  exact hk _ _ _ hw hT hg
theorem jS (hS:staV U 195=s1) (h:VI p r1) (hw:w.I U=r1.w) (hT:T.R U=r1.T) (hg:g.R U=r1.g) (hn:n.I U=m) (hm:0<=m/\m<(p.l.length:Int)) (hl:p.l.length<=64)
  (hk:∀w' T' g':E,w'.I U=([(m,s1)].foldl vput r1).w->T'.R U=([(m,s1)].foldl vput r1).T->g'.R U=([(m,s1)].foldl vput r1).g->(kk w' T' g').asks sP_vrun G U I):(putT n (fun t=>.vs 195 171 t) w T g v kk).asks sP_vrun G U I:=
 xx (s:=s1) avo aoE (fun _=>trivial) (fun _=>trivial) h hw hT hg hn hm hl (fun t=>by rw[yr,hS]) (by rw[ad7,hS]) hk
end
def RI (p:Prog) (ds:List Dt):Prop:=∃(last visits:Int) (r:VR),ds=[.z last,.z visits,.z r.w,.l r.T,.l r.g]/\VI p r/\(0<=visits/\visits<=2000)/\fl p (2000-visits).toNat last r=vrun p
def RM (ds:List Dt):Nat:=(2000-dI ds 1).toNat
section
variable {k:Int} {x:Ins} {s b':Sta} {b:Ty}
theorem aaH (h:x.k=4\/x.k=6):dp k x s b=[]:=if_pos h
theorem nq (h4:x.k≠4) (h6:x.k≠6) (ht:(eU x s b&&eO x.op)=false):dp k x s b=[(opI .add .i64 k 1,s)]:=by
 unfold dp vway
 rw[if_neg (fun h=>h.elim h4 h6),ht];rfl
theorem vg (h4:x.k≠4) (h6:x.k≠6) (ht:(eU x s b&&eO x.op)=true):dp k x s b=vway s x.d (tnth s x.d) b true (opI .add .i64 k 1) (gR x.op) true:=by
 unfold dp
 rw[if_neg (fun h=>h.elim h4 h6)]
 rw[thm0] at ht
 rw[ht.1,ht.2]
theorem aaG (h:(itgt k x).2=false):fk k x s b=[]:=if_neg (by rw[h];simp)
theorem aaF (h:(itgt k x).2=true) (ht:eU x s b=false):fk k x s b=[((itgt k x).1,s)]:=by
 unfold fk vway
 rw[if_pos h,ht];rfl
theorem vf (h:(itgt k x).2=true) (ht:eU x s b=true):fk k x s b=vway s x.d (tnth s x.d) b true (itgt k x).1 x.op true:=by
 unfold fk
 rw[if_pos h,ht]
end
theorem afA {z:Int} (h:bO z=true):IntKind.i64.wrap z=z:=by
 unfold bO at h
 simp only[bH,db] at h
 rw[aR]
 omega
def dR (x:Ins):Bool:=!(x.k==4) &&!(x.k==6)
theorem nT {x:Ins} (h:dR x=true):x.k≠4/\x.k≠6:=by
 unfold dR at h
 simpa using h
theorem aaN {x:Ins} (h:dR x=false):x.k=4\/x.k=6:=by
 unfold dR at h
 by_cases h4:x.k=4
 ·exact .inl h4
 ·exact .inr (by simpa[h4] using h)
section
variable {G:Env->E->Prop} {U:Env} {I:Nat->List Dt->Prop} {p:Prog} {visits:Int} {r r1:VR} {k:Nat} {s1:Sta} {b:Ty} {n w T g:E} {v:Nat} {kk:E->E->E->Tr}
theorem aer (F:RF p visits r k U) (hS:staV U 195=s1) (hB:tyV U 183=b) (h:VI p r1) (hw:w.I U=r1.w) (hT:T.R U=r1.T) (hg:g.R U=r1.g) (hn:n.I U=opI .add .i64 (k:Int) 1) (hm:dR (ab p.l k)=true->0<=opI .add .i64 (k:Int) 1/\opI .add .i64 (k:Int) 1<(p.l.length:Int)) (hl:p.l.length<=64)
  (t4:U.b 194=dR (ab p.l k)) (t6:U.b 366=eU (ab p.l k) s1 b) (t7:U.i 367=gR (ab p.l k).op) (t8:U.b 368=eO (ab p.l k).op)
  (nx:∀w' T' g':E,w'.I U=((dp k (ab p.l k) s1 b).foldl vput r1).w->T'.R U=((dp k (ab p.l k) s1 b).foldl vput r1).T->g'.R U=((dp k (ab p.l k) s1 b).foldl vput r1).g->(kk w' T' g').asks sP_vrun G U I):(Tr.br (.bw 194) (.br (.bw 366) (.br (.bw 368) (apG (.var 367) n w T g 369 kk) (putT n (fun t=>.vs 195 171 t) w T g v kk)) (putT n (fun t=>.vs 195 171 t) w T g v kk)) (kk w T g)).asks sP_vrun G U I:=by
 refine⟨fun c=> ?_,fun c=> ?_⟩
 ·have hf:dR (ab p.l k)=true:=t4.symm.trans c
  obtain⟨k4,k6⟩:=nT hf
  refine⟨fun c6=>⟨fun c8=> ?_,fun c8=> ?_⟩,fun c6=> ?_⟩
  ·rw[vg k4 k6 (by rw[show eU (ab p.l k) s1 b=true from t6.symm.trans c6,show eO (ab p.l k).op=true from t8.symm.trans c8];rfl)] at nx
   exact qC F hS hB h hw hT hg hn (hm hf) hl t7 nx
  ·rw[nq k4 k6 (by rw[show eO (ab p.l k).op=false from t8.symm.trans c8,aO])] at nx
   exact jS hS h hw hT hg hn (hm hf) hl nx
  ·rw[nq k4 k6 (by rw[show eU (ab p.l k) s1 b=false from t6.symm.trans c6];rfl)] at nx
   exact jS hS h hw hT hg hn (hm hf) hl nx
 ·rw[aaH (aaN (t4.symm.trans c))] at nx
  exact nx _ _ _ hw hT hg
theorem aeq (F:RF p visits r k U) (hS:staV U 195=s1) (hB:tyV U 183=b) (h:VI p r1) (e1:U.i 369=r1.w) (e2:U.l 370=r1.T) (e3:U.l 371=r1.g) (t1:U.i 192=(itgt k (ab p.l k)).1) (t2:U.b 193=(itgt k (ab p.l k)).2) (hm:(itgt k (ab p.l k)).2=true->0<=(itgt k (ab p.l k)).1/\(itgt k (ab p.l k)).1<(p.l.length:Int)) (hl:p.l.length<=64) (t6:U.b 366=eU (ab p.l k) s1 b)
  (nx:∀w' T' g':E,w'.I U=((fk k (ab p.l k) s1 b).foldl vput r1).w->T'.R U=((fk k (ab p.l k) s1 b).foldl vput r1).T->g'.R U=((fk k (ab p.l k) s1 b).foldl vput r1).g->(kk w' T' g').asks sP_vrun G U I):(Tr.br (.bw 193) (.br (.bw 366) (apG (.get (.lw 1) (.var 180) 1) (.var 192) (.var 369) (.lw 370) (.lw 371) 372 kk) (putT (.var 192) (fun t=>.vs 195 171 t) (.var 369) (.lw 370) (.lw 371) v kk)) (kk (.var 369) (.lw 370) (.lw 371))).asks sP_vrun G U I:=by
 refine⟨fun c=> ?_,fun c=> ?_⟩
 ·have hj:(itgt k (ab p.l k)).2=true:=t2.symm.trans c
  refine⟨fun c2=> ?_,fun c2=> ?_⟩
  ·rw[vf hj (t6.symm.trans c2)] at nx
   exact qC F hS hB h e1 e2 e3 t1 (hm hj) hl (F.X 1) nx
  ·rw[aaF hj (t6.symm.trans c2)] at nx
   exact jS hS h e1 e2 e3 t1 (hm hj) hl nx
 ·rw[aaG (t2.symm.trans c)] at nx
  exact nx _ _ _ e1 e2 e3
end
theorem apW (p:Prog) (hp:Prog.ok p) (hp:oC [.z p.ctx,.l p.l]) (U:Env) (g:varsD U 0 [.int .i64,.list (kN 9 220090000)]=[.z p.ctx,.l p.l]):sT_vrun.asks sP_vrun (fun U e=>e.D U=ug [.z p.ctx,.l p.l]) U fun _ _=>False:=by
 have hl:p.l.length<=maxLen:=hp
 have g0:U.i 0=p.ctx/\U.l 1=p.l:=by
  simp only[varsD,varD,thm5,Dt.z.injEq,Dt.l.injEq,and_true,Nat.reduceAdd] at g
  exact g
 unfold sT_vrun
 refine ar (xs:=[.z p.ctx,.l p.l]) (by simp only[E.D,E.I,E.R,g0.1,g0.2]) hl (fun e=> ?_)
 have e1:U.i 2=(bj p).1/\U.i 3=(bj p).2:=⟨e.1,e.2.1⟩
 clear e
 refine⟨fun c0=> ?_,fun c0=> ?_⟩
 rotate_left
 ·have h0:¬(bj p).2=0:=by
   simp only[E.B,E.I,e1.2] at c0
   exact neI c0
  show[Dt.l [],.l [],.z (U.i 2),.z (U.i 3)]=[.l (vrun p).1,.l (vrun p).2.1,.z (vrun p).2.2.1,.z (vrun p).2.2.2]
  unfold vrun
  rw[e1.1,e1.2,if_neg h0]
 have hok:(bj p).2=0:=by
  simp only[E.B,E.I,e1.2] at c0
  exact eqI c0
 obtain⟨⟨q1,q2,q3⟩,q4,q5⟩:=eH hl hok
 refine ar (xs:=[]) rfl trivial (fun e=> ?_)
 have eF:staV U 4=gJ:=aot e
 clear e
 refine⟨RI p,RM,⟨0,0,vini,?_,VI.ini q2,by decide,by unfold vrun;rw[if_pos hok];rfl⟩,?_⟩
 ·have e2:(E.lput (.lrep (.lit 64) (.cb (.tt false) (.zr 171 .nil))) (.lit 0) (.cb (.tt true) (.vs 4 171 .nil))).R U=vini.T:=by
   simp only[E.R,E.L,ad7,eF]
   rfl
  simp only[E.zs,E.D,e2]
  rfl
 intro U1 ha1 _ hi1
 obtain⟨last,visits,r,hds,hV,hv,hrun⟩:=hi1
 simp only[varsD,varD,thm5,Dt.z.injEq,Dt.l.injEq,and_true,Nat.reduceAdd] at hds
 obtain⟨d1,d2,d3,d4,d5⟩:=hds
 have gl:U1.l 1=p.l:=(ha1 1 (by decide)).2.2.symm.trans g0.2
 have gc:U1.i 0=p.ctx:=(ha1 0 (by decide)).1.symm.trans g0.1
 refine⟨fun c1=> ?_,fun c1=> ?_⟩
 ·
  have hw0:r.w=0:=by
   simp only[E.B,E.I,d3] at c1
   exact eqI c1
  rw[dq hw0] at hrun
  refine⟨fun ds=>∃(n:Nat) (T:List (List Int)),ds=[.z n,.l ((List.range n).map fun(k:Nat)=>[b2i (gt r.T k 0==1)]),.l ((List.range n).map fun(k:Nat)=>if gt r.T k 0=1 then staL (ax r.T k) else List.replicate 171 0),.l T]/\n<=p.l.length/\T.length=64/\∀k,n<=k->T[k]? =r.T[k]?,fun ds=>(64-dI ds 0).toNat,⟨0,r.T,by simp only[E.D,E.R,E.I,d4];rfl,Nat.zero_le _,hV.T,fun _ _=>rfl⟩,?_⟩
  intro U2 ha2 _ hi2
  obtain⟨n,T,hds,hn,hT,hsame⟩:=hi2
  rw[show varsD U2 180 _=[.z (U2.i 180),.l (U2.l 181),.l (U2.l 182),.l (U2.l 183)] from rfl] at hds ⊢
  simp only[thm5,Dt.z.injEq,Dt.l.injEq,and_true] at hds
  obtain⟨f1,f2,f3,f4⟩:=hds
  have gl2:U2.l 1=p.l:=(ha2 1 (by decide)).2.2.symm.trans gl
  refine⟨fun c2=> ?_,fun c2=> ?_⟩
  rotate_left
  ·have hn2:n=p.l.length:=by
    simp only[E.B,E.I,E.R,f1,gl2] at c2
    have:=thm2 c2
    omega
   show[Dt.l (U2.l 181),.l (U2.l 182),.z 0,.z 0]=[.l (vrun p).1,.l (vrun p).2.1,.z (vrun p).2.2.1,.z (vrun p).2.2.2]
   rw[<-hrun,f2,f3,hn2];rfl
  have hn2:n<p.l.length:=by
   simp only[E.B,E.I,E.R,f1,gl2] at c2
   have:=thm3 c2
   omega
  have hn64:n<64:=by omega
  have hs:=hsame n (Nat.le_refl n)
  have b1:(E.lt (.len (.lw 181)) (.lit 1073741824)).B U2=true:=by
   simp only[E.B,E.I,E.R,f2,List.length_map,List.length_range]
   exact dU (by omega)
  have b2:(E.lt (.len (.lw 182)) (.lit 1073741824)).B U2=true:=by
   simp only[E.B,E.I,E.R,f3,List.length_map,List.length_range]
   exact dU (by omega)
  have eI:(E.bin .add .i64 (.var 180) (.lit 1)).I U2=((n+1:Nat):Int):=by
   simp only[E.I,f1];exact avY hn64
  refine⟨fun c3=> ?_,fun _=>⟨fun _=>⟨fun _=>⟨fun c4=>⟨fun _=>⟨fun _=>au ?_,fun c=> ?_⟩,fun c=> ?_⟩,fun c4=>⟨fun _=>⟨fun _=>au ?_,fun c=> ?_⟩,fun c=> ?_⟩⟩,fun c=> ?_⟩,fun c=> ?_⟩⟩
  ·simp only[E.B,E.I,f1] at c3
   have:=thm3 c3
   omega
  ·have h1:gt r.T n 0=1:=by
    simp only[E.B,E.I,E.R,f1,f4,gD hs] at c4
    exact eqI c4
   refine⟨⟨n+1,T,?_,hn2,hT,fun k hk=>hsame k (by omega)⟩,?_⟩
   ·simp only[E.D]
    rw[eI]
    simp only[E.R,E.L,avn,E.I,E.B,f1,f2,f3,f4,fX hs,List.range_succ,List.map_append,List.map_cons,List.map_nil,h1,if_true,beq_self_eq_true]
   ·show(64-(E.bin .add .i64 (.var 180) (.lit 1)).I U2).toNat<(64-U2.i 180).toNat
    rw[eI,f1];omega
  ·rw[b2] at c;cases c
  ·rw[b1] at c;cases c
  ·have h1:¬gt r.T n 0=1:=by
    simp only[E.B,E.I,E.R,f1,f4,gD hs] at c4
    exact neI c4
   have hb:(gt r.T n 0==1)=false:=by
    simp only[E.B,E.I,E.R,f1,f4,gD hs] at c4
    exact c4
   refine⟨⟨n+1,T.set n (1::List.replicate 171 0),?_,hn2,by rw[List.length_set];exact hT,fun k hk=>by rw[List.getElem?_set_ne (by omega)];exact hsame k (by omega)⟩,?_⟩
   ·have eT:(E.lput (.lw 183) (.var 180) (.cb (.tt true) (.zr 171 .nil))).R U2=T.set n (1::List.replicate 171 0):=by
     simp only[E.R,E.I,f1,f4,dj];rfl
    have eS:(E.lq (.lw 182) (.zr 171 .nil)).R U2=U2.l 182++[List.replicate 171 0]:=rfl
    simp only[E.D,eI,eT,eS,f3,List.range_succ,List.map_append,List.map_cons,List.map_nil,if_neg h1]
    simp only[E.R,E.L,E.B,f2,hb]
   ·show(64-(E.bin .add .i64 (.var 180) (.lit 1)).I U2).toNat<(64-U2.i 180).toNat
    rw[eI,f1];omega
  ·rw[b2] at c;cases c
  ·rw[b1] at c;cases c
  ·simp only[E.B,E.I,E.R,f1,f4,hT] at c
   have:=thm2 c
   omega
  ·simp only[E.B,E.I,f1] at c
   have:=thm2 c
   omega
 have hw0:r.w≠0:=by
  simp only[E.B,E.I,d3] at c1
  exact neI c1
 refine⟨fun c2=> ?_,fun c2=> ?_⟩
 ·have hv2:visits=2000:=by
   simp only[E.B,E.I,d2] at c2
   exact eqI c2
  show[Dt.l [],.l [],.z (U1.i 175),.z 112]=[.l (vrun p).1,.l (vrun p).2.1,.z (vrun p).2.2.1,.z (vrun p).2.2.2]
  rw[<-hrun,hv2,d1,show(2000-2000:Int).toNat=0 from rfl,fU hw0]
 have hv2:visits<2000:=by
  simp only[E.B,E.I,d2] at c2
  have:=neI c2
  omega
 obtain⟨hV2,k,hk1,hk2,hk3,hk4⟩:=hV.next hw0
 obtain⟨m,hm⟩:∃m,(2000-visits).toNat=m+1:=⟨(2000-visits).toNat-1,by omega⟩
 have hm2:m=(2000-(visits+1)).toNat:=by omega
 rw[hm] at hrun
 have herr:∀e:Int,(aK p k (ax r.T k))=([],e)->e≠0->vrun p=([],[],(k:Int),e):=fun e he h0=>by
  rw[<-hrun,ko hw0 (by rw[hk1,he];exact h0),hk1,he]
 refine ar [.z r.w] (by simp only[E.D,E.I,d3]) trivial (fun e=> ?_)
 have F1:RF p visits r k U1:=⟨gl,gc,d2,d3,d4,d5,(show U1.i 180=tzI r.w from e.1).trans hk1⟩
 clear e
 have hx:imay (ab p.l k)=true:=jc hl hok (Int.natCast_nonneg k) (by omega)
 have hd:=nb hx
 refine⟨fun c=> ?_,fun _=>⟨fun _=>⟨fun _=>⟨fun _=>⟨fun _=> ?_,fun c=> ?_⟩,fun c=> ?_⟩,fun c=> ?_⟩,fun c=> ?_⟩⟩
 ·simp only[E.B,E.I,F1.i] at c
  have:=thm3 c
  omega
 rotate_left
 ·simp only[E.B,E.I,E.R,F1.i,F1.l] at c
  have:=thm2 c
  omega
 ·simp only[E.B,E.I,E.R,F1.i,F1.T,hk4] at c
  cases c
 ·simp only[E.B,E.I,E.R,F1.i,F1.T,hV.T] at c
  have:=thm2 c
  omega
 ·simp only[E.B,E.I,F1.i] at c
  have:=thm2 c
  omega
 obtain⟨R,hR,hR2⟩:=anl hx
 refine ar (aas (ab p.l k) []) (by rw[ane];simp only[E.R,E.I,F1.l,F1.i];rfl) trivial (fun e=> ?_)
 have e181:U1.i 181=(R:Int):=by
  have e:=e
  rw[show sP_vrun.F 3=mS from rfl,avp,hR] at e
  exact e.1
 clear e
 refine⟨fun ds=>∃m:Nat,ds=[.z (m:Int)]/\UInv (ax r.T k) R m,fun ds=>(dI ds 0).toNat,⟨R,by simp only[E.D,E.I,e181],.init hR2⟩,?_⟩
 intro U2 ha2 _ hi2
 obtain⟨n,hds,hU⟩:=hi2
 rw[show varsD U2 182 [.int .i64]=[.z (U2.i 182)] from rfl] at hds ⊢
 simp only[thm5,Dt.z.injEq,and_true] at hds
 have F2:=F1.ag ha2 (by decide)
 refine⟨fun c3=> ?_,fun c3=> ?_⟩
 ·
  have hn:0<n:=by
   simp only[E.B,E.I,hds] at c3
   have:=thm3 c3
   omega
  refine ar [.z (IntKind.u64.wrap n)] (by simp only[E.D,E.I,hds]) trivial (fun e=> ?_)
  have e183:U2.i 183=tzI (IntKind.u64.wrap n):=e.1
  clear e
  have hz:=asU hn hU.lt
  have cB:(E.eq (.nth (.var 183) (.sg (.lw 178) (.var 180) 1 11)) (.lit 0)).B U2=((dg (ax r.T k)).getD (tzI (IntKind.u64.wrap n)).toNat 0==0):=by
   show(((E.sg (.lw 178) (.var 180) 1 11).L U2).getD (U2.i 183).toNat 0==0)=_
   rw[show(E.sg (.lw 178) (.var 180) 1 11).L U2=dg (ax (U2.l 178) (U2.i 180)) from rfl,F2.T,F2.i,e183]
  refine⟨fun c=> ?_,fun _=>⟨fun _=>⟨fun c4=> ?_,fun c4=> ?_⟩,fun c=> ?_⟩⟩
  ·simp only[E.B,E.I,e183] at c
   have:=thm3 c
   omega
  ·rw[cB] at c4
   have hb:kp (ax r.T k) R=true:=hU.bad hn c4
   have hvs:aK p k (ax r.T k)=([],110):=by
    unfold aK
    rw[hR,dj,if_pos hb]
   show[Dt.l [],.l [],.z (U2.i 180),.z 110]=[.l (vrun p).1,.l (vrun p).2.1,.z (vrun p).2.2.1,.z (vrun p).2.2.2]
   rw[herr 110 hvs (by decide),F2.i]
  ·rw[cB] at c4
   obtain⟨m2,e1,e2,e3⟩:=hU.next hn c4
   refine au ⟨⟨m2,?_,e2⟩,?_⟩
   ·simp only[E.D,E.I,hds,e1]
   ·show((E.bin .and .i64 (.var 182) (.bin .sub .i64 (.var 182) (.lit 1))).I U2).toNat<(U2.i 182).toNat
    simp only[E.I,hds,e1]
    omega
  ·simp only[E.B,E.I,e183] at c
   have:=thm2 c
   omega
 have hn:n=0:=by
  simp only[E.B,E.I,hds] at c3
  have:=thm2 c3
  omega
 subst hn
 have hu:kp (ax r.T k) R=false:=hU.good
 have X5:∀U,RF p visits r k U->(E.lt (.get (.lw 1) (.var 180) 5) (.lit 0)).B U=false/\(E.lt (.get (.lw 1) (.var 180) 5) (.lit 11)).B U=true:=fun U F=>by
  have h5:(E.get (.lw 1) (.var 180) 5).I U=(ab p.l k).d:=F.X 5
  simp only[E.B]
  rw[h5]
  exact⟨fW (by show¬(ab p.l k).d<0;omega),dU (by show(ab p.l k).d<11;omega)⟩
 have X6:(E.lt (.get (.lw 1) (.var 180) 6) (.lit 0)).B U2=false/\(E.lt (.get (.lw 1) (.var 180) 6) (.lit 11)).B U2=true:=by
  have h6:(E.get (.lw 1) (.var 180) 6).I U2=(ab p.l k).s:=F2.X 6
  simp only[E.B]
  rw[h6]
  exact⟨fW (by show¬(ab p.l k).s<0;omega),dU (by show(ab p.l k).s<11;omega)⟩
 refine⟨fun c=>(by rw[X6.1] at c;cases c),fun _=>⟨fun _=> ?_,fun c=>(by rw[X6.2] at c;cases c)⟩⟩
 refine⟨fun ds=>ds=d_Ty (bl (ab p.l k) (ax r.T k)) [],⟨fun c=>au ?_,fun c=> ?_⟩,?_⟩
 ·have hb:(ab p.l k).br=true:=by
   simp only[E.B,E.R,E.I,F2.l,F2.i] at c
   exact c
  rw[ajZ,show(E.lw 178).R U2=r.T from F2.T,show(E.var 180).I U2=(k:Int) from F2.i,show(E.get (.lw 1) (.var 180) 6).I U2=(ab p.l k).s from F2.X 6]
  unfold bl
  rw[if_pos hb];rfl
 ·have hb:¬(ab p.l k).br=true:=by
   simp only[E.B,E.R,E.I,F2.l,F2.i] at c
   exact fun h=>by rw[show(gt p.l k 4==1)=true from h] at c;cases c
  refine ar [.z (IntKind.u64.wrap (ab p.l k).imm)] (by
   show[Dt.z (IntKind.u64.wrap ((E.get (.lw 1) (.var 180) 8).I U2))]=_
   rw[F2.X 8];rfl) trivial (fun e=> ?_)
  rw[show sP_vrun.F 6=dc from rfl,aoA] at e
  have e1:=(adI (ks:=[]) e).1
  refine ar (dSc (vone (IntKind.u64.wrap (ab p.l k).imm)) []) (by rw[yu,e1];rfl) trivial (fun e=>au ?_)
  rw[show sP_vrun.F 15=dO from rfl,rK] at e
  rw[anb,jw e]
  unfold bl
  rw[if_neg hb];rfl
 intro U3 ha3 _ hi3
 have F3:=F2.ag ha3 (by decide)
 have hB3:tyV U3 183=bl (ab p.l k) (ax r.T k):=acL (r:=[]) (r':=[]) hi3
 clear hi3
 refine ar (.z k::aas (ab p.l k) []) (by
  show Dt.z (U3.i 180)::(E.ins (.lw 1) (.var 180) .nil).D U3=_
  rw[ane,F3.i,show(E.lw 1).R U3=p.l from F3.l,show(E.var 180).I U3=(k:Int) from F3.i];rfl) trivial (fun e=> ?_)
 rw[show sP_vrun.F 5=fw from rfl,aoF] at e
 have t1:U3.i 192=(itgt k (ab p.l k)).1:=e.1
 have t2:U3.b 193=(itgt k (ab p.l k)).2:=e.2.1.trans (eQ _)
 clear e
 have fin:∀s1:Sta,vmid p (ab p.l k) (ax r.T k)=(s1,0)->∀U5,RF p visits r k U5->∀w T g:E,w.I U5=((fk k (ab p.l k) s1 (bl (ab p.l k) (ax r.T k))).foldl vput ((dp k (ab p.l k) s1 (bl (ab p.l k) (ax r.T k))).foldl vput (lV r))).w->T.R U5=((fk k (ab p.l k) s1 (bl (ab p.l k) (ax r.T k))).foldl vput ((dp k (ab p.l k) s1 (bl (ab p.l k) (ax r.T k))).foldl vput (lV r))).T->g.R U5=((fk k (ab p.l k) s1 (bl (ab p.l k) (ax r.T k))).foldl vput ((dp k (ab p.l k) s1 (bl (ab p.l k) (ax r.T k))).foldl vput (lV r))).g->
   RI p ((E.cons (.var 180) (.cons (.bin .add .i64 (.var 176) (.lit 1)) (.cons w (.cL T (.cL g .nil))))).D U5)/\RM ((E.cons (.var 180) (.cons (.bin .add .i64 (.var 176) (.lit 1)) (.cons w (.cL T (.cL g .nil))))).D U5)<RM (varsD U1 175 [.int .i64,.int .i64,.int .u64,.list [],.list []]):=by
  intro s1 hmid U5 F5 w T g hw hT hg
  have hs:aK p k (ax r.T k)=(dp k (ab p.l k) s1 (bl (ab p.l k) (ax r.T k))++fk k (ab p.l k) s1 (bl (ab p.l k) (ax r.T k)),0):=by
   unfold aK
   rw[hR,dj,hu,hmid,if_neg (by simp),if_pos rfl]
  have hV3:=VI.puts q3 _ (VI.puts q3 _ hV2 (yE hl hok hk3 (s:=s1) (b:=bl (ab p.l k) (ax r.T k)))) (aep hl hok hk3 (s:=s1) (b:=bl (ab p.l k) (ax r.T k)))
  have ev:opI .add .i64 visits 1=visits+1:=by
   show IntKind.i64.wrap _=_
   rw[aR];omega
  refine⟨⟨k,visits+1,_,?_,hV3,⟨by omega,by omega⟩,?_⟩,?_⟩
  ·simp only[E.D,E.I,F5.i,F5.v,hw,hT,hg,ev]
  ·rw[<-hm2,<-hrun,iS hw0 (by rw[hk1,hs]),hk1,hs,List.foldl_append]
  ·show(2000-(E.bin .add .i64 (.var 176) (.lit 1)).I U5).toNat<(2000-U1.i 176).toNat
   simp only[E.I,F5.v,d2,ev]
   omega
 have kx:∀(U:Env),RF p visits r k U->∀z:Int,(E.eq (.get (.lw 1) (.var 180) 0) (.lit z)).B U=((ab p.l k).k==z):=fun U F z=>by
  show((E.get (.lw 1) (.var 180) 0).I U==z)=_
  rw[F.X 0];rfl
 refine⟨fun ds=>ds=[.z (b2i (dR (ab p.l k)))],⟨fun c=>au ?_,fun c=>au ?_⟩,?_⟩
 ·show[Dt.z (b2i false)]=_
  unfold dR
  rw[show((ab p.l k).k==4)=true from(kx U3 F3 4).symm.trans c];rfl
 ·show[Dt.z (b2i (!((E.get (.lw 1) (.var 180) 0).I U3==6)))]=_
  rw[F3.X 0]
  unfold dR
  rw[show((ab p.l k).k==4)=false from(kx U3 F3 4).symm.trans c];rfl
 intro U4 ha4 _ hi4
 have f4:U4.b 194=dR (ab p.l k):=kj (Dt.z.inj (List.cons.inj hi4).1)
 clear hi4
 have F4:=F3.ag ha4 (by decide)
 have hB4:tyV U4 183=bl (ab p.l k) (ax r.T k):=(mM ha4 (by decide)).trans hB3
 have h178:(E.lw 178).R U4=r.T:=F4.T
 have h180:(E.var 180).I U4=(k:Int):=F4.i
 have hl1:(E.lw 1).R U4=p.l:=F4.l
 have h5:(E.get (.lw 1) (.var 180) 5).I U4=(ab p.l k).d:=F4.X 5
 have h6:(E.get (.lw 1) (.var 180) 6).I U4=(ab p.l k).s:=F4.X 6
 have verr:∀(s1:Sta) (e:Int),vmid p (ab p.l k) (ax r.T k)=(s1,e)->e≠0->aK p k (ax r.T k)=([],e):=fun s1 e h h0=>by
  unfold aK
  rw[hR,dj,hu,h,if_neg (by simp),if_neg h0]
 have z3:bO (ab p.l k).sz=true->(E.conv .i64 (.get (.lw 1) (.var 180) 3)).I U4=(ab p.l k).sz:=fun hz=>by
  show IntKind.i64.wrap ((E.get (.lw 1) (.var 180) 3).I U4)=_
  rw[F4.X 3];exact afA hz
 have wz:∀{t:Ty},aB p.ctx t (ab p.l k).off (ab p.l k).sz=true->bO (ab p.l k).sz=true:=fun {t} h=>by
  unfold aB at h
  rw[thm0,thm0] at h
  exact h.2.1
 refine⟨fun ds=>∃s1,ds=av s1 []/\vmid p (ab p.l k) (ax r.T k)=(s1,0),?_,?_⟩
 ·refine⟨fun c0=> ?_,fun c0=>⟨fun c1=> ?_,fun c1=>⟨fun c2=> ?_,fun c2=>⟨fun c5=> ?_,fun c5=> ?_⟩⟩⟩⟩
  ·
   have hk:(ab p.l k).k=0:=eqI ((kx U4 F4 0).symm.trans c0)
   refine⟨fun c=>(by rw[(X5 U4 F4).1] at c;cases c),fun _=>⟨fun _=> ?_,fun c=>(by rw[(X5 U4 F4).2] at c;cases c)⟩⟩
   refine ar (.l (insR (ab p.l k))::d_Ty (tnth (ax r.T k) (ab p.l k).d) (d_Ty (bl (ab p.l k) (ax r.T k)) [])) (by
    show Dt.l ((E.lq .ln (.ins (.lw 1) (.var 180) .nil)).R U4)::(E.tg (.get (.lw 1) (.var 180) 5) (.lw 178) (.var 180) 1 9 (.vs 183 9 .nil)).D U4=_
    rw[ad6,ajZ,anb,hB4,h178,h180,h5,hl1];rfl) rfl (fun e=> ?_)
   rw[show sP_vrun.F 8=ig from rfl,aoC] at e
   have eT:=jw e
   refine au ⟨_,by rw[asG,h178,h180,h5,eT];rfl,?_⟩
   unfold vmid;rw[if_pos hk]
  ·
   have hk0:(ab p.l k).k≠0:=neI ((kx U4 F4 0).symm.trans c0)
   have hk:(ab p.l k).k=1:=eqI ((kx U4 F4 1).symm.trans c1)
   refine ar (.z p.ctx::.l p.l::.l (insR (ab p.l k))::d_Ty (tnth (ax r.T k) (ab p.l k).s) []) (by
    show Dt.z (U4.i 0)::Dt.l (U4.l 1)::Dt.l ((E.lq .ln (.ins (.lw 1) (.var 180) .nil)).R U4)::(E.tg (.get (.lw 1) (.var 180) 6) (.lw 178) (.var 180) 1 9 .nil).D U4=_
    rw[ad6,ajZ,h178,h180,h6,hl1,F4.c,F4.l];rfl) ⟨rfl,hl⟩ (fun e=> ?_)
   rw[show sP_vrun.F 9=fv from rfl,acU] at e
   have a1:U4.i 195=alo (tnth (ax r.T k) (ab p.l k).s) (ab p.l k):=e.1
   have a2:U4.i 196=ahi (tnth (ax r.T k) (ab p.l k).s) (ab p.l k):=e.2.1
   have a3:U4.b 197=aB p.ctx (tnth (ax r.T k) (ab p.l k).s) (ab p.l k).off (ab p.l k).sz:=e.2.2.1.trans (eQ _)
   clear e
   refine⟨fun cw=> ?_,fun cw=> ?_⟩
   ·have hw:=a3.symm.trans cw
    have hz:=z3 (wz hw)
    refine ar [.z (ab p.l k).sz] (by
     show[Dt.z ((E.conv .i64 (.get (.lw 1) (.var 180) 3)).I U4)]=_
     rw[hz]) trivial (fun e=> ?_)
    rw[show sP_vrun.F 10=gK from rfl,avq] at e
    have e1:=(adI (ks:=[]) e).1
    refine ar (dSc (vbyt (ab p.l k).sz) []) (by rw[yu,e1];rfl) trivial (fun e=> ?_)
    rw[show sP_vrun.F 15=dO from rfl,rK] at e
    have eT:=jw e
    clear e
    refine⟨fun c=>(by rw[(X5 U4 F4).1] at c;cases c),fun _=>⟨fun _=> ?_,fun c=>(by rw[(X5 U4 F4).2] at c;cases c)⟩⟩
    have c3e:(E.eq (.nth (.get (.lw 1) (.var 180) 6) (.sg (.lw 178) (.var 180) 1 11)) (.lit 3)).B U4=((tnth (ax r.T k) (ab p.l k).s).k==3):=by
     show(((E.sg (.lw 178) (.var 180) 1 11).L U4).getD ((E.get (.lw 1) (.var 180) 6).I U4).toNat 0==3)=_
     rw[show(E.sg (.lw 178) (.var 180) 1 11).L U4=dg (ax (U4.l 178) (U4.i 180)) from rfl,F4.T,F4.i,h6];rfl
    refine⟨fun c3=> ?_,fun c3=> ?_⟩
    ·have h3:(tnth (ax r.T k) (ab p.l k).s).k=3:=eqI (c3e.symm.trans c3)
     refine ar (av (sreg (ax r.T k) (ab p.l k).d (tsc (vbyt (ab p.l k).sz))) [.z (alo (tnth (ax r.T k) (ab p.l k).s) (ab p.l k)),.z (ahi (tnth (ax r.T k) (ab p.l k).s) (ab p.l k)),.z (ab p.l k).sz]) (by
      rw[asG,h178,h180,h5,eT]
      show av _ [Dt.z (U4.i 195),.z (U4.i 196),.z ((E.conv .i64 (.get (.lw 1) (.var 180) 3)).I U4)]=_
      rw[hz,a1,a2]) trivial (fun e=> ?_)
     rw[show sP_vrun.F 12=dz from rfl,ajX] at e
     have eL:=aso e
     have eE:U4.i 222=_:=aor e
     clear e
     have hv:vmid p (ab p.l k) (ax r.T k)=(sreg (sreg (ax r.T k) (ab p.l k).d (tsc (vbyt (ab p.l k).sz))) (ab p.l k).d (tyV U4 213),U4.i 222):=by
      unfold vmid
      rw[if_neg hk0,if_pos hk,if_pos hw]
      unfold vld
      rw[if_pos h3,eL,eE]
     refine⟨fun c9=> ?_,fun c9=> ?_⟩
     ·have h0:U4.i 222=0:=eqI c9
      refine au ⟨_,by rw[avu,h178,h180,h5,eT];rfl,?_⟩
      rw[hv,h0]
     ·have h0:U4.i 222≠0:=neI c9
      show[Dt.l [],.l [],.z (U4.i 180),.z (U4.i 222)]=[.l (vrun p).1,.l (vrun p).2.1,.z (vrun p).2.2.1,.z (vrun p).2.2.2]
      rw[herr _ (verr _ _ hv h0) h0,F4.i]
    ·have h3:¬(tnth (ax r.T k) (ab p.l k).s).k=3:=neI (c3e.symm.trans c3)
     refine au ⟨_,by rw[asG,h178,h180,h5,eT];rfl,?_⟩
     unfold vmid
     rw[if_neg hk0,if_pos hk,if_pos hw]
     unfold vld
     rw[if_neg h3]
   ·have hw:¬aB p.ctx (tnth (ax r.T k) (ab p.l k).s) (ab p.l k).off (ab p.l k).sz=true:=by
     rw[a3.symm.trans cw];simp
    show[Dt.l [],.l [],.z (U4.i 180),.z 111]=[.l (vrun p).1,.l (vrun p).2.1,.z (vrun p).2.2.1,.z (vrun p).2.2.2]
    rw[herr 111 (verr (ax r.T k) 111 (by unfold vmid;rw[if_neg hk0,if_pos hk,if_neg hw]) (by decide)) (by decide),F4.i]
  ·
   have hk0:(ab p.l k).k≠0:=neI ((kx U4 F4 0).symm.trans c0)
   have hk1:(ab p.l k).k≠1:=neI ((kx U4 F4 1).symm.trans c1)
   have hk:(ab p.l k).k=2:=eqI ((kx U4 F4 2).symm.trans c2)
   refine⟨fun c=>(by rw[(X5 U4 F4).1] at c;cases c),fun _=>⟨fun _=> ?_,fun c=>(by rw[(X5 U4 F4).2] at c;cases c)⟩⟩
   refine ar (.z p.ctx::.l p.l::.l (insR (ab p.l k))::d_Ty (tnth (ax r.T k) (ab p.l k).d) []) (by
    show Dt.z (U4.i 0)::Dt.l (U4.l 1)::Dt.l ((E.lq .ln (.ins (.lw 1) (.var 180) .nil)).R U4)::(E.tg (.get (.lw 1) (.var 180) 5) (.lw 178) (.var 180) 1 9 .nil).D U4=_
    rw[ad6,ajZ,h178,h180,h5,hl1,F4.c,F4.l];rfl) ⟨rfl,hl⟩ (fun e=> ?_)
   rw[show sP_vrun.F 9=fv from rfl,acU] at e
   have a1:U4.i 195=alo (tnth (ax r.T k) (ab p.l k).d) (ab p.l k):=e.1
   have a2:U4.i 196=ahi (tnth (ax r.T k) (ab p.l k).d) (ab p.l k):=e.2.1
   have a3:U4.b 197=aB p.ctx (tnth (ax r.T k) (ab p.l k).d) (ab p.l k).off (ab p.l k).sz:=e.2.2.1.trans (eQ _)
   clear e
   refine⟨fun cw=> ?_,fun cw=> ?_⟩
   ·have hw:=a3.symm.trans cw
    have hz:=z3 (wz hw)
    have c3e:(E.eq (.nth (.get (.lw 1) (.var 180) 5) (.sg (.lw 178) (.var 180) 1 11)) (.lit 3)).B U4=((tnth (ax r.T k) (ab p.l k).d).k==3):=by
     show(((E.sg (.lw 178) (.var 180) 1 11).L U4).getD ((E.get (.lw 1) (.var 180) 5).I U4).toNat 0==3)=_
     rw[show(E.sg (.lw 178) (.var 180) 1 11).L U4=dg (ax (U4.l 178) (U4.i 180)) from rfl,F4.T,F4.i,h5];rfl
    refine⟨fun c3=> ?_,fun c3=> ?_⟩
    ·have h3:(tnth (ax r.T k) (ab p.l k).d).k=3:=eqI (c3e.symm.trans c3)
     refine ar (av (ax r.T k) (.z (alo (tnth (ax r.T k) (ab p.l k).d) (ab p.l k))::.z (ahi (tnth (ax r.T k) (ab p.l k).d) (ab p.l k))::.z (ab p.l k).sz::d_Ty (tnth (ax r.T k) (ab p.l k).s) [])) (by
      rw[anf,h178,h180]
      show av _ (Dt.z (U4.i 195)::.z (U4.i 196)::.z ((E.conv .i64 (.get (.lw 1) (.var 180) 3)).I U4)::(E.tg (.get (.lw 1) (.var 180) 6) (.lw 178) (.var 180) 1 9 .nil).D U4)=_
      rw[ajZ,hz,a1,a2,h178,h180,h6];rfl) trivial (fun e=> ?_)
     rw[show sP_vrun.F 13=cD from rfl,acV] at e
     have eL:=amT e
     have eE:U4.i 369=_:=aos e
     clear e
     have hv:vmid p (ab p.l k) (ax r.T k)=(staV U4 198,U4.i 369):=by
      unfold vmid
      rw[if_neg hk0,if_neg hk1,if_pos hk,if_pos hw]
      unfold vsv
      rw[if_pos h3,eL,eE]
     refine⟨fun c9=> ?_,fun c9=> ?_⟩
     ·have h0:U4.i 369=0:=eqI c9
      refine au ⟨_,by rw[yr];rfl,?_⟩
      rw[hv,h0]
     ·have h0:U4.i 369≠0:=neI c9
      show[Dt.l [],.l [],.z (U4.i 180),.z (U4.i 369)]=[.l (vrun p).1,.l (vrun p).2.1,.z (vrun p).2.2.1,.z (vrun p).2.2.2]
      rw[herr _ (verr _ _ hv h0) h0,F4.i]
    ·have h3:¬(tnth (ax r.T k) (ab p.l k).d).k=3:=neI (c3e.symm.trans c3)
     refine au ⟨_,by rw[anf,h178,h180];rfl,?_⟩
     unfold vmid
     rw[if_neg hk0,if_neg hk1,if_pos hk,if_pos hw]
     unfold vsv
     rw[if_neg h3]
   ·have hw:¬aB p.ctx (tnth (ax r.T k) (ab p.l k).d) (ab p.l k).off (ab p.l k).sz=true:=by
     rw[a3.symm.trans cw];simp
    show[Dt.l [],.l [],.z (U4.i 180),.z 111]=[.l (vrun p).1,.l (vrun p).2.1,.z (vrun p).2.2.1,.z (vrun p).2.2.2]
    rw[herr 111 (verr (ax r.T k) 111 (by unfold vmid;rw[if_neg hk0,if_neg hk1,if_pos hk,if_neg hw]) (by decide)) (by decide),F4.i]
  ·
   have hk:(ab p.l k).k=5:=eqI ((kx U4 F4 5).symm.trans c5)
   refine ar (xs:=[]) rfl trivial (fun e=> ?_)
   have eT:tyV U4 195=tscal:=jw e
   refine au ⟨_,by rw[avv,h178,h180,eT],?_⟩
   unfold vmid
   rw[if_neg (by omega),if_neg (by omega),if_neg (by omega),if_pos hk];rfl
  ·have hk0:(ab p.l k).k≠0:=neI ((kx U4 F4 0).symm.trans c0)
   have hk1:(ab p.l k).k≠1:=neI ((kx U4 F4 1).symm.trans c1)
   have hk2:(ab p.l k).k≠2:=neI ((kx U4 F4 2).symm.trans c2)
   have hk5:(ab p.l k).k≠5:=neI ((kx U4 F4 5).symm.trans c5)
   refine au ⟨_,by rw[anf,h178,h180];rfl,?_⟩
   unfold vmid
   rw[if_neg hk0,if_neg hk1,if_neg hk2,if_neg hk5]
 intro U5 ha5 _ hi5
 obtain⟨s1,hds,hmid⟩:=hi5
 have hS5:staV U5 195=s1:=qf (r:=[]) (r':=[]) hds
 clear hds
 have F5:=F4.ag ha5 (by decide)
 have hB5:tyV U5 183=bl (ab p.l k) (ax r.T k):=(mM ha5 (by decide)).trans hB4
 refine⟨fun c=>(by rw[(X5 U5 F5).1] at c;cases c),fun _=>⟨fun _=> ?_,fun c=>(by rw[(X5 U5 F5).2] at c;cases c)⟩⟩
 have cae:(E.eq (.nth (.get (.lw 1) (.var 180) 5) (.sv 195 11)) (.lit 1)).B U5=((tnth s1 (ab p.l k).d).k==1):=by
  show(((E.sv 195 11).L U5).getD ((E.get (.lw 1) (.var 180) 5).I U5).toNat 0==1)=_
  rw[show(E.sv 195 11).L U5=dg (staV U5 195) from rfl,hS5,F5.X 5];rfl
 refine⟨fun ds=>ds=[.z (b2i (eU (ab p.l k) s1 (bl (ab p.l k) (ax r.T k))))],⟨fun c3=>⟨fun ca=>au ?_,fun ca=>au ?_⟩,fun c3=>au ?_⟩,?_⟩
 ·show[Dt.z (b2i ((tyV U5 183).k==1))]=_
  rw[hB5]
  unfold eU
  rw[show((ab p.l k).k==3)=true from(kx U5 F5 3).symm.trans c3,cae.symm.trans ca];rfl
 ·show[Dt.z (b2i false)]=_
  unfold eU
  rw[cae.symm.trans ca,aP,aO]
 ·show[Dt.z (b2i false)]=_
  unfold eU
  rw[show((ab p.l k).k==3)=false from(kx U5 F5 3).symm.trans c3];rfl
 intro U6 ha6 _ hi6
 have q6:U6.b 366=eU (ab p.l k) s1 (bl (ab p.l k) (ax r.T k)):=kj (Dt.z.inj (List.cons.inj hi6).1)
 clear hi6
 have F6:=F5.ag ha6 (by decide)
 have hS6:=(nX ha6 (by decide)).trans hS5
 have hB6:tyV U6 183=bl (ab p.l k) (ax r.T k):=(mM ha6 (by decide)).trans hB5
 have f6:=(ha6 194 (by decide)).2.1.symm.trans ((ha5 194 (by decide)).2.1.symm.trans f4)
 have t16:=(ha6 192 (by decide)).1.symm.trans ((ha5 192 (by decide)).1.symm.trans ((ha4 192 (by decide)).1.symm.trans t1))
 have t26:=(ha6 193 (by decide)).2.1.symm.trans ((ha5 193 (by decide)).2.1.symm.trans ((ha4 193 (by decide)).2.1.symm.trans t2))
 have w6:(E.bin .and .u64 (.var 177) (.bin .sub .u64 (.var 177) (.lit 1))).I U6=(lV r).w:=by simp only[E.I,F6.w];rfl
 have n6:(E.bin .add .i64 (.var 180) (.lit 1)).I U6=opI .add .i64 (k:Int) 1:=by simp only[E.I,F6.i]
 have on:dR (ab p.l k)=true->0<=opI .add .i64 (k:Int) 1/\opI .add .i64 (k:Int) 1<(p.l.length:Int):=fun hf=>by
  obtain⟨k4,k6⟩:=nT hf
  obtain⟨e1,e2⟩:=auq hl hok hk3 k4 k6
  rw[e1];omega
 refine ar [.z (ab p.l k).op] (by
  show[Dt.z ((E.get (.lw 1) (.var 180) 1).I U6)]=_
  rw[F6.X 1];rfl) trivial (fun e=> ?_)
 have b7:U6.i 367=gR (ab p.l k).op:=e.1
 have b8:U6.b 368=eO (ab p.l k).op:=e.2.1.trans (eQ _)
 clear e
 refine⟨fun ds=>∃r1:VR,ds=[.z r1.w,.l r1.T,.l r1.g]/\r1=(dp k (ab p.l k) s1 (bl (ab p.l k) (ax r.T k))).foldl vput (lV r),?_,?_⟩
 ·refine aer (kk:=fun w T g=>.next 6 (.cons w (.cL T (.cL g .nil)))) F6 hS6 hB6 hV2 w6 F6.T F6.g n6 on q3 f6 q6 b7 b8 (fun w' T' g' h1 h2 h3=>au ⟨_,?_,rfl⟩)
  simp only[E.D,h1,h2,h3]
 intro U7 ha7 _ hi7
 obtain⟨r1,hds,hr1⟩:=hi7
 have hV1:VI p r1:=by rw[hr1];exact VI.puts q3 _ hV2 (yE hl hok hk3)
 rw[show varsD U7 369 _=[.z (U7.i 369),.l (U7.l 370),.l (U7.l 371)] from rfl] at hds
 simp only[thm5,Dt.z.injEq,Dt.l.injEq,and_true] at hds
 have F7:=F6.ag ha7 (by decide)
 refine aeq (kk:=fun w T g=>.next 0 (.cons (.var 180) (.cons (.bin .add .i64 (.var 176) (.lit 1)) (.cons w (.cL T (.cL g .nil)))))) F7 ((nX ha7 (by decide)).trans hS6) ((mM ha7 (by decide)).trans hB6) hV1 hds.1 hds.2.1 hds.2.2 ((ha7 192 (by decide)).1.symm.trans t16) ((ha7 193 (by decide)).2.1.symm.trans t26) (asW hl hok hk3) q3 ((ha7 366 (by decide)).2.1.symm.trans q6) (fun w' T' g' h1 h2 h3=> ?_)
 rw[hr1] at h1 h2 h3
 exact xJ (by decide) (au (fin s1 hmid U7 F7 w' T' g' h1 h2 h3))
theorem ahE {sp:Spec} {key:Nat} (hF:sp.F key=ug) (hP:sp.pre key=oC) (hH:∀w,sp.hw w->sHw w:=by exact fun _ h=>h):SmOk Tryz.prog sp (tA key):=
 aq (s:=tA key) (hW:=hH) hF hP (by kernel_rfl) vn (smc (wY rfl rfl) (smc (wW rfl) (smc (ahK rfl) (smc (anZ rfl) (smc (at2 rfl) (smc (zG rfl) (smc (oU rfl) (smc (ah2 rfl) (smc (ahG rfl rfl) (smc (ahH rfl rfl) (smc (abI rfl) (smc (gf rfl) (smc (abK rfl) (smc (wV rfl) (smc (ahF rfl) (smc (ahD rfl) (smc (ahM rfl) (smc (al8 rfl) sm0)))))))))))))))))) Tryz.func12 (fnc Tryz.func38 (fnc Tryz.func86 (fnc Tryz.func87 fn0))) aqE (.inr (.inl ⟨(fun xs h L hL=>by unfold oC at h;split at h<;>first | exact h.elim | (simp at hL;subst hL;exact h)),rfl⟩)) (fun x0 gx0 x1 gx1 hp U g=>apW ⟨x0,x1⟩ ⟨gx0,gx1⟩ hp U g)
end Go.Proofs.YtfkhblmeioiciaaGreatDoor
