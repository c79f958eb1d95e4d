import Derived.Test.YtfkhblmeioiciaaGreatDoorVzC
import Derived.Test.YtfkhblmeioiciaaGreatDoorProg
import Derived.Laws.Externs
import Derived.Test.YtfkhblmeioiciaaGreatDoorAfZ
import Derived.Test.YtfkhblmeioiciaaGreatDoorAgZ
import Derived.Lib.SmallJoins
import Derived.Test.YtfkhblmeioiciaaGreatDoorRows
set_option maxRecDepth 100000
set_option maxHeartbeats 8000000
set_option linter.defProp false
set_option linter.unusedVariables false
set_option linter.unusedSimpArgs false
namespace Go.Proofs.YtfkhblmeioiciaaGreatDoor
open Go.RowKit Go.ChangeShapes Go.WideShapes
def tys_VzD:List (Nat×TI):=[(2,tiq2),
 (3,tiq3),
 (4,tiq4),
 (22,ac3),
 (24,ac2),
 (27,ac1),
 (37,gP),
 (39,yG),
 (42,fF),
 (44,gO),
 (46,kt),
 (48,dy),
 (50,qr),
 (51,si),
 (52,sf),
 (54,se),
 (55,asZ),
 (66,apC),
 (105,vP),
 (145,ans),
 (149,anr),
 (151,anq)]
theorem afb:(tys_VzD.all fun p=>ckTI Tryz.prog p.1 p.2)=true:=by kernel_rfl
theorem vA:(tys_VzD.all fun p=>!p.2.eqok||((Nat.beq p.1 39&&aN p.2.zero nO)||(Nat.beq p.1 48&&aN p.2.zero z_Sc)||(Nat.beq p.1 50&&aN p.2.zero z_Ty)||(Nat.beq p.1 54&&aN p.2.zero yz)))=true:=by kernel_rfl
theorem aeP:(tys_VzD.all fun p=>!p.2.keyok)=true:=by kernel_rfl
theorem aeF:∀t i,(t,i)∈tys_VzD->TIok Tryz.prog t i:=by
 intro t i h
 refine bB (cz (f:=ckTI Tryz.prog) afb h) (fun he=> ?_) (fun he=> ?_) (fun he=> ?_)
 ·have h1:=thm7.1 vA (t,i) h
  simp only[he,Bool.not_true,Bool.false_or,bH,thm0] at h1
  rcases h1 with((h1 | h1) | h1) | h1
  ·have hs:=h1.2
   obtain rfl:=thm1 h1.1
   exact fun vs us hv hu=>pY vs us (an hs hv) (an hs hu)
  ·have hs:=h1.2
   obtain rfl:=thm1 h1.1
   exact fun vs us hv hu=>qy vs us (an hs hv) (an hs hu)
  ·have hs:=h1.2
   obtain rfl:=thm1 h1.1
   exact fun vs us hv hu=>qx vs us (an hs hv) (an hs hu)
  ·have hs:=h1.2
   obtain rfl:=thm1 h1.1
   exact fun vs us hv hu=>ajm vs us (an hs hv) (an hs hu)
 ·have h1:=thm7.1 vA (t,i) h
  simp only[he,Bool.not_true,Bool.false_or,bH,thm0] at h1
  rcases h1 with((h1 | h1) | h1) | h1
  ·have hs:=h1.2
   obtain rfl:=thm1 h1.1
   exact jY
  ·have hs:=h1.2
   obtain rfl:=thm1 h1.1
   exact jv
  ·have hs:=h1.2
   obtain rfl:=thm1 h1.1
   exact ju
  ·have hs:=h1.2
   obtain rfl:=thm1 h1.1
   exact aaj
 ·have h1:=thm7.1 aeP (t,i) h
  simp[he] at h1
def tv (key:Nat):Sm:=⟨15,key,[.agg lG,.one (.int .i64),.agg kSta],[.one (.sl (kN 172 2211221102211221102211221102211221102211221102211221102211221102211221102211221102211221102211221102211221102211221102211221102211221102211221102211221102211221102211221102) 66),.one (.int .i64)],true⟩
def aa6 (p:Prog) (i:Int) (s:Sta):List Dt:=[.l ((bn p i s).1),.z ((bn p i s).2)]
def iU:List Dt->List Dt:=arJ fun p=>rdZ fun i=>bL fun s=>fun _=>aa6 p i s
def sT_vstep:Tr:=
(.call 0 [.int .i64,.int .i64] (.cons (.var 0) (.cL (.lw 1) .nil)) 174
(.br (.eq (.var 175) (.lit 0))
(.br (.lt (.var 2) (.lit 0))
(.leaf (.cL .ln (.cons (.lit 2) .nil)))
(.br (.lt (.var 2) (.len (.lw 1)))
(.call 1 [.bool] (.vs 3 171 .nil) 176
(.br (.bw 176)
(.call 2 [.int .i64] (.ins (.lw 1) (.var 2) .nil) 177
(.loop 0 178 [.int .i64] (.cons (.var 177) .nil)
(.br (.lt (.lit 0) (.var 178))
(.call 3 [.int .i64] (.cons (.conv .u64 (.var 178)) .nil) 179
(.br (.lt (.var 179) (.lit 0))
.panic
(.br (.lt (.var 179) (.lit 11))
(.br (.eq (.nth (.var 179) (.sv 3 11)) (.lit 0))
(.leaf (.cL .ln (.cons (.lit 110) .nil)))
(.next 0 (.cons (.bin .and .i64 (.var 178) (.bin .sub .i64 (.var 178) (.lit 1))) .nil)))
.panic)))
(.br (.lt (.get (.lw 1) (.var 2) 6) (.lit 0))
.panic
(.br (.lt (.get (.lw 1) (.var 2) 6) (.lit 11))
(.cut 1 179 [.int .i8,.int .u64,.int .u64,.int .i64,.int .i64,.int .u64,.int .u64,.int .i64,.int .i64]
(.br (.getb (.lw 1) (.var 2) 4)
(.next 1 (.tn (.get (.lw 1) (.var 2) 6) 3 9 .nil))
(.call 5 (kSc) (.cons (.conv .u64 (.get (.lw 1) (.var 2) 8)) .nil) 179
(.call 14 (kTy) (.vs 179 6 .nil) 185
(.next 1 (.vs 185 9 .nil)))))
(.call 4 [.int .i64,.bool] (.cons (.var 2) (.ins (.lw 1) (.var 2) .nil)) 188
(.cut 2 190 [.bool]
(.br (.eq (.get (.lw 1) (.var 2) 0) (.lit 4))
(.next 2 (.cb (.tt false) .nil))
(.next 2 (.cb (.not (.eq (.get (.lw 1) (.var 2) 0) (.lit 6))) .nil)))
(.cut 3 191 [.int .i8,.int .u64,.int .u64,.int .i64,.int .i64,.int .u64,.int .u64,.int .i64,.int .i64,.int .i8,.int .u64,.int .u64,.int .i64,.int .i64,.int .u64,.int .u64,.int .i64,.int .i64,.int .i8,.int .u64,.int .u64,.int .i64,.int .i64,.int .u64,.int .u64,.int .i64,.int .i64,.int .i8,.int .u64,.int .u64,.int .i64,.int .i64,.int .u64,.int .u64,.int .i64,.int .i64,.int .i8,.int .u64,.int .u64,.int .i64,.int .i64,.int .u64,.int .u64,.int .i64,.int .i64,.int .i8,.int .u64,.int .u64,.int .i64,.int .i64,.int .u64,.int .u64,.int .i64,.int .i64,.int .i8,.int .u64,.int .u64,.int .i64,.int .i64,.int .u64,.int .u64,.int .i64,.int .i64,.int .i8,.int .u64,.int .u64,.int .i64,.int .i64,.int .u64,.int .u64,.int .i64,.int .i64,.int .i8,.int .u64,.int .u64,.int .i64,.int .i64,.int .u64,.int .u64,.int .i64,.int .i64,.int .i8,.int .u64,.int .u64,.int .i64,.int .i64,.int .u64,.int .u64,.int .i64,.int .i64,.int .i8,.int .u64,.int .u64,.int .i64,.int .i64,.int .u64,.int .u64,.int .i64,.int .i64,.int .i8,.int .u64,.int .u64,.int .i64,.int .i64,.int .u64,.int .u64,.int .i64,.int .i64,.int .i8,.int .u64,.int .u64,.int .i64,.int .i64,.int .u64,.int .u64,.int .i64,.int .i64,.int .i8,.int .u64,.int .u64,.int .i64,.int .i64,.int .u64,.int .u64,.int .i64,.int .i64,.int .i8,.int .u64,.int .u64,.int .i64,.int .i64,.int .u64,.int .u64,.int .i64,.int .i64,.int .i8,.int .u64,.int .u64,.int .i64,.int .i64,.int .u64,.int .u64,.int .i64,.int .i64,.int .i8,.int .u64,.int .u64,.int .i64,.int .i64,.int .u64,.int .u64,.int .i64,.int .i64,.int .i8,.int .u64,.int .u64,.int .i64,.int .i64,.int .u64,.int .u64,.int .i64,.int .i64,.int .i8,.int .u64,.int .u64,.int .i64,.int .i64,.int .u64,.int .u64,.int .i64,.int .i64]
(.br (.eq (.get (.lw 1) (.var 2) 0) (.lit 0))
(.br (.lt (.get (.lw 1) (.var 2) 5) (.lit 0))
.panic
(.br (.lt (.get (.lw 1) (.var 2) 5) (.lit 11))
(.call 7 (kTy) (.cL (.lq .ln (.ins (.lw 1) (.var 2) .nil)) (.tn (.get (.lw 1) (.var 2) 5) 3 9 (.vs 179 9 .nil))) 191
(.next 3 (.rg (.get (.lw 1) (.var 2) 5) (.vs 191 9 .nil) (.vs 3 99 .nil) (.vs 102 72 .nil))))
.panic))
(.br (.eq (.get (.lw 1) (.var 2) 0) (.lit 1))
(.call 8 [.int .i64,.int .i64,.bool] (.cons (.var 0) (.cL (.lw 1) (.cL (.lq .ln (.ins (.lw 1) (.var 2) .nil)) (.tn (.get (.lw 1) (.var 2) 6) 3 9 .nil)))) 191
(.br (.bw 193)
(.call 9 (kSc) (.cons (.conv .i64 (.get (.lw 1) (.var 2) 3)) .nil) 194
(.call 14 (kTy) (.vs 194 6 .nil) 200
(.br (.lt (.get (.lw 1) (.var 2) 5) (.lit 0))
.panic
(.br (.lt (.get (.lw 1) (.var 2) 5) (.lit 11))
(.br (.eq (.nth (.get (.lw 1) (.var 2) 6) (.sv 3 11)) (.lit 3))
(.call 11 (kTy++[.int .i64]) (.rg (.get (.lw 1) (.var 2) 5) (.vs 200 9 .nil) (.vs 3 99 .nil) (.vs 102 72 (.vs 191 2 (.cons (.conv .i64 (.get (.lw 1) (.var 2) 3)) .nil)))) 209
(.br (.eq (.var 218) (.lit 0))
(.next 3 (.rg (.get (.lw 1) (.var 2) 5) (.vs 209 9 .nil) (.rg (.get (.lw 1) (.var 2) 5) (.vs 200 9 .nil) (.vs 3 99 .nil) .nil) (.vs 102 72 .nil)))
(.leaf (.cL .ln (.cons (.var 218) .nil)))))
(.next 3 (.rg (.get (.lw 1) (.var 2) 5) (.vs 200 9 .nil) (.vs 3 99 .nil) (.vs 102 72 .nil))))
.panic))))
(.leaf (.cL .ln (.cons (.lit 111) .nil)))))
(.br (.eq (.get (.lw 1) (.var 2) 0) (.lit 2))
(.br (.lt (.get (.lw 1) (.var 2) 5) (.lit 0))
.panic
(.br (.lt (.get (.lw 1) (.var 2) 5) (.lit 11))
(.call 8 [.int .i64,.int .i64,.bool] (.cons (.var 0) (.cL (.lw 1) (.cL (.lq .ln (.ins (.lw 1) (.var 2) .nil)) (.tn (.get (.lw 1) (.var 2) 5) 3 9 .nil)))) 191
(.br (.bw 193)
(.br (.eq (.nth (.get (.lw 1) (.var 2) 5) (.sv 3 11)) (.lit 3))
(.call 12 (kSta++[.int .i64]) (.vs 3 171 (.vs 191 2 (.cons (.conv .i64 (.get (.lw 1) (.var 2) 3)) (.tn (.get (.lw 1) (.var 2) 6) 3 9 .nil)))) 194
(.br (.eq (.var 365) (.lit 0))
(.next 3 (.vs 194 171 .nil))
(.leaf (.cL .ln (.cons (.var 365) .nil)))))
(.next 3 (.vs 3 171 .nil)))
(.leaf (.cL .ln (.cons (.lit 111) .nil)))))
.panic))
(.br (.eq (.get (.lw 1) (.var 2) 0) (.lit 5))
(.call 10 (kTy) .nil 191
(.next 3 (.vs 191 9 (.zr 45 (.vs 57 117 .nil)))))
(.next 3 (.vs 3 171 .nil))))))
(.br (.lt (.get (.lw 1) (.var 2) 5) (.lit 0))
.panic
(.br (.lt (.get (.lw 1) (.var 2) 5) (.lit 11))
(.cut 4 362 [.bool]
(.br (.eq (.get (.lw 1) (.var 2) 0) (.lit 3))
(.br (.eq (.nth (.get (.lw 1) (.var 2) 5) (.sv 191 11)) (.lit 1))
(.next 4 (.cb (.eq (.var 179) (.lit 1)) .nil))
(.next 4 (.cb (.tt false) .nil)))
(.next 4 (.cb (.tt false) .nil)))
(.call 6 [.int .i8,.bool] (.cons (.get (.lw 1) (.var 2) 1) .nil) 363
(.cut 5 365 [.list (kN 172 2211221102211221102211221102211221102211221102211221102211221102211221102211221102211221102211221102211221102211221102211221102211221102211221102211221102211221102211221102)]
(.br (.bw 190)
(.br (.bw 362)
(.br (.bw 364)
(.call 13 (kSc++[.bool]) (.cons (.var 363) (.tn (.get (.lw 1) (.var 2) 5) 192 6 (.vs 180 6 .nil))) 365
(.br (.bw 371)
(.call 14 (kTy) (.vs 365 6 .nil) 372
(.next 5 (.cL (.lq .ln (.cons (.bin .add .i64 (.var 2) (.lit 1)) (.rg (.get (.lw 1) (.var 2) 5) (.vs 372 9 .nil) (.vs 191 99 .nil) (.vs 290 72 .nil)))) .nil)))
(.next 5 (.cL .ln .nil))))
(.next 5 (.cL (.lq .ln (.cons (.bin .add .i64 (.var 2) (.lit 1)) (.vs 191 171 .nil))) .nil)))
(.next 5 (.cL (.lq .ln (.cons (.bin .add .i64 (.var 2) (.lit 1)) (.vs 191 171 .nil))) .nil)))
(.next 5 (.cL .ln .nil)))
(.br (.bw 189)
(.br (.bw 362)
(.call 13 (kSc++[.bool]) (.cons (.get (.lw 1) (.var 2) 1) (.tn (.get (.lw 1) (.var 2) 5) 192 6 (.vs 180 6 .nil))) 366
(.br (.bw 372)
(.call 14 (kTy) (.vs 366 6 .nil) 373
(.br (.lt (.len (.lw 365)) (.lit 1073741824))
(.leaf (.cL (.lq (.lw 365) (.cons (.var 188) (.rg (.get (.lw 1) (.var 2) 5) (.vs 373 9 .nil) (.vs 191 99 .nil) (.vs 290 72 .nil)))) (.cons (.lit 0) .nil)))
.panic))
(.leaf (.cL (.lw 365) (.cons (.lit 0) .nil)))))
(.br (.lt (.len (.lw 365)) (.lit 1073741824))
(.leaf (.cL (.lq (.lw 365) (.cons (.var 188) (.vs 191 171 .nil))) (.cons (.lit 0) .nil)))
.panic))
(.leaf (.cL (.lw 365) (.cons (.lit 0) .nil)))))))
.panic))))))
.panic)))))
(.leaf (.cL .ln (.cons (.lit 2) .nil)))))
(.leaf (.cL .ln (.cons (.lit 2) .nil)))))
(.leaf (.cL .ln (.cons (.var 175) .nil)))))
def sP_vstep:Spec:={F:=fun k=>match k with | 0=>ir | 1=>bY | 2=>mS | 3=>ah3 | 4=>fw | 5=>dc | 6=>pw | 7=>ig | 8=>fv | 9=>gK | 10=>bQ | 11=>dz | 12=>cD | 13=>ic | 14=>dO | _=>fun _=>[],pre:=fun k=>match k with | 0=>fJ | 7=>mf | 8=>mg | _=>fun _=>True,hw:=sHw,hx:=sHx,hi:=sHi}
theorem alu:ap tys_VzD [kF 0,hG 1,abF 2,alV 3,oP 4,jG 5,ue 6,tH 7,tI 8,qP 9,dX 10,nB 11,kC 12,tD 13,tx 14] [(38,Tryz.f38,[(3,[.tmpI 9 .i64]++tps [(6,2),(36,14)]),(999999,[]),(999998,[])],[(10,[.cels 7 0 (kN 9 221122110)]++tps [(57,12)]),(12,[.tmpX 13 [none] 4]++tps [(77,12)]),(37,[.cels 5 0 (kN 171 221122110221122110221122110221122110221122110221122110221122110221122110221122110221122110221122110221122110221122110221122110221122110221122110221122110221122110221122110)]++tps [(6,2),(14,8),(89,129)]),(39,[.tmpX 23 [none] 4]++tps [(225,15)])]),(86,Tryz.f86,[(999999,[]),(999998,[])],[(3,[.cT 3 0 (kN 172 2211221102211221102211221102211221102211221102211221102211221102211221102211221102211221102211221102211221102211221102211221102211221102211221102211221102211221102211221102) 66]++tps [(15,10)])]),(87,Tryz.f87,[(999999,[]),(999998,[])],[])] [(999999,[]),(999997,[])] [] 200 Tryz.f15 [.agg lG,.one (.int .i64),.agg kSta] [.one (.sl (kN 172 2211221102211221102211221102211221102211221102211221102211221102211221102211221102211221102211221102211221102211221102211221102211221102211221102211221102211221102211221102) 66),.one (.int .i64)] true (.int .i64::(.list (kN 9 220090000)::(.int .i64::(bG ([]))))) sT_vstep:=⟨by kernel_rfl,by kernel_rfl,by kernel_rfl⟩
def nz:List Dt->Prop
 | .z x0::.l x1::.z x2::rest=>(let f (p:Prog) (i:Int):Prop:=p.l.length<=maxLen;f ⟨x0,x1⟩ x2)/\noL rest=true
 | _=>False
section
variable (U:Env)
theorem avt (e t:E) (m k n:Nat):(E.rg e (E.vs m 9 .nil) (E.rg e (E.vs k 9 .nil) (E.vs n 99 .nil) .nil) (E.vs (n+99) 72 t)).D U=av (sreg (sreg (staV U n) (e.I U) (tyV U k)) (e.I U) (tyV U m)) (t.D U):=by kernel_rfl
theorem asI (m n:Nat):(E.vs m 9 (.zr 45 (.vs (n+54) 117 .nil))).D U=av {staV U n with r0:=tyV U m,r1:=tnil,r2:=tnil,r3:=tnil,r4:=tnil,r5:=tnil} []:=by kernel_rfl
end
theorem avr (s:Sta):bY (av s [])=[.z (b2i (smay s))]:=by
 unfold bY
 rw[bp];rfl
theorem aoD (p:Prog) (i:Int) (s:Sta):iU (.z p.ctx::.l p.l::.z i::av s [])=[.l (bn p i s).1,.z (bn p i s).2]:=by
 have h:iU (.z p.ctx::.l p.l::.z i::av s [])=bL (fun s=>fun _=>aa6 p i s) (av s []):=by kernel_rfl
 rw[h,bp];rfl
structure SF (p:Prog) (i:Int) (s:Sta) (U:Env):Prop where
 l:U.l 1=p.l
 c:U.i 0=p.ctx
 i:U.i 2=i
 s:staV U 3=s
theorem SF.ag {p:Prog} {i:Int} {s:Sta} {n:Nat} {U U':Env} (h:SF p i s U) (ha:Ag n U U') (hn:174<=n):SF p i s U':=
 ⟨(ha 1 (by omega)).2.2.symm.trans h.l,(ha 0 (by omega)).1.symm.trans h.c,(ha 2 (by omega)).1.symm.trans h.i,(nX ha (by omega)).trans h.s⟩
theorem SF.X {p:Prog} {i:Int} {s:Sta} {U:Env} (h:SF p i s U) (c:Nat):(E.get (.lw 1) (.var 2) c).I U=gt p.l i c:=by
 simp only[E.I,E.R,h.l,h.i]
def sRow (q:Int×Sta):List Int:=q.1::staL q.2
def avB (cc:E) (v:Nat) (k1 k0:Tr):Tr:=
 .call 13 (kSc6++[.bool]) (.cons cc (.tn (.get (.lw 1) (.var 2) 5) 192 6 (.vs 180 6 .nil))) v
  (.br (.bw (v+6)) (.call 14 kTy (.vs v 6 .nil) (v+7) k1) k0)
theorem qD {G:Env->E->Prop} {U:Env} {I:Nat->List Dt->Prop} {p:Prog} {k:Int} {s s1:Sta} {b:Ty} {cc:E} {v:Nat} {c m:Int} {k1 k0:Tr} (F:SF p k s U) (hS:staV U 191=s1) (hB:tyV U 179=b) (hc:cc.I U=c)
  (h1:vway s1 (ab p.l k).d (tnth s1 (ab p.l k).d) b true m c true=[(m,sreg s1 (ab p.l k).d (tyV U (v+7)))]->k1.asks sP_vstep G U I) (h0:vway s1 (ab p.l k).d (tnth s1 (ab p.l k).d) b true m c true=[]->k0.asks sP_vstep G U I):(avB cc v k1 k0).asks sP_vstep G U I:=by
 have hX:(E.get (.lw 1) (.var 2) 5).I U=(ab p.l k).d:=F.X 5
 refine ar (.z c::dSc (tnth s1 (ab p.l k).d).s (dSc b.s [])) (by
  show Dt.z (cc.I U)::(E.tn (.get (.lw 1) (.var 2) 5) (191+1) 6 (.vs (179+1) 6 .nil)).D U=_
  rw[avs,yu,hS,hX,hc,as4,hB];rfl) trivial (fun e=> ?_)
 rw[show sP_vstep.F 13=ic from rfl,aoB] at e
 obtain⟨e1,e2,_⟩:=adI e
 have e3:U.b (v+6)=vgok c (tnth s1 (ab p.l k).d).s b.s:=e2.trans (eQ _)
 refine⟨fun c0=> ?_,fun c0=> ?_⟩
 ·have hok:vgok c (tnth s1 (ab p.l k).d).s b.s=true:=e3.symm.trans c0
  refine ar (dSc (vgiv c (tnth s1 (ab p.l k).d).s b.s) []) (by rw[yu,e1];rfl) trivial (fun e=> ?_)
  rw[show sP_vstep.F 14=dO from rfl,rK] at e
  refine h1 ?_
  unfold vway
  rw[jw e,if_pos (by rfl),if_pos hok]
 ·have hok:¬vgok c (tnth s1 (ab p.l k).d).s b.s=true:=by
   rw[<-e3];intro h9;rw[show(E.bw (v+6)).B U=U.b (v+6) from rfl,h9] at c0;cases c0
  refine h0 ?_
  unfold vway
  rw[if_pos (by rfl),if_neg hok]
theorem akc (i:Int) (x:Ins) (s:Sta) (b:Ty):(dp i x s b).length<=1:=by
 unfold dp vway
 split
 ·exact Nat.zero_le _
 ·split
  ·split
   ·exact Nat.le_refl _
   ·exact Nat.zero_le _
  ·exact Nat.le_refl _
theorem akU (p:Prog) (hp:Prog.ok p) (i:Int) (hi:inK .i64 i=true) (s:Sta) (hs:Sta.ok s) (hp:nz (.z p.ctx::(.l p.l::(.z i::(av s ([])))))) (U:Env) (g:varsD U 0 (.int .i64::(.list (kN 9 220090000)::(.int .i64::(bG ([])))))=(.z p.ctx::(.l p.l::(.z i::(av s ([])))))):sT_vstep.asks sP_vstep (fun U e=>e.D U=iU (.z p.ctx::(.l p.l::(.z i::(av s ([])))))) U fun _ _=>False:=by
 have hl:p.l.length<=maxLen:=hp.1
 rw[aoD p i s]
 have F0:SF p i s U:=by
  have g':Dt.z (U.i 0)::Dt.l (U.l 1)::Dt.z (U.i 2)::varsD U 3 (bG [])=.z p.ctx::.l p.l::.z i::av s []:=g
  rw[apx] at g'
  simp only[thm5,Dt.z.injEq,Dt.l.injEq] at g'
  exact⟨g'.2.1,g'.1,g'.2.2.1,qf g'.2.2.2⟩
 unfold sT_vstep
 refine ar (xs:=[.z p.ctx,.l p.l]) (by simp only[E.D,E.I,E.R,F0.c,F0.l]) hl (fun e=> ?_)
 have e1:U.i 175=(bj p).2:=e.2.1
 clear e
 refine⟨fun c0=> ?_,fun c0=> ?_⟩
 rotate_left
 ·have h0:¬(bj p).2=0:=by
   simp only[E.B,E.I,e1] at c0
   exact neI c0
  show[Dt.l [],.z (U.i 175)]=[.l (bn p i s).1,.z (bn p i s).2]
  unfold bn
  rw[e1,if_neg h0]
 have hok:(bj p).2=0:=by
  simp only[E.B,E.I,e1] at c0
  exact eqI c0
 obtain⟨⟨q1,q2,q3⟩,q4,q5⟩:=eH hl hok
 refine⟨fun c1=> ?_,fun c1=>⟨fun c2=> ?_,fun c2=> ?_⟩⟩
 ·simp only[E.B,E.I,F0.i] at c1
  show[Dt.l [],.z 2]=[.l (bn p i s).1,.z (bn p i s).2]
  unfold bn
  rw[if_pos hok,if_neg (fun h=>by have:=thm3 c1;have:=h.1.1;omega)]
 rotate_left
 ·simp only[E.B,E.I,E.R,F0.i,F0.l] at c2
  show[Dt.l [],.z 2]=[.l (bn p i s).1,.z (bn p i s).2]
  unfold bn
  rw[if_pos hok,if_neg (fun h=>by have:=thm2 c2;have:=h.1.2;omega)]
 have h0:0<=i:=by
  simp only[E.B,E.I,F0.i] at c1
  have:=thm2 c1
  omega
 have hk9:i<(p.l.length:Int):=by
  simp only[E.B,E.I,E.R,F0.i,F0.l] at c2
  exact thm3 c2
 obtain⟨k,rfl⟩:=ku h0
 have hk3:k<p.l.length:=by omega
 clear c0 c1 c2
 refine ar (xs:=av s []) (by rw[yr,F0.s];rfl) trivial (fun e=> ?_)
 rw[show sP_vstep.F 1=bY from rfl,avr] at e
 have m1:U.b 176=smay s:=e.1.trans (eQ _)
 clear e
 refine⟨fun c3=> ?_,fun c3=> ?_⟩
 rotate_left
 ·have hm:¬smay s=true:=by rw[m1.symm.trans c3];simp
  show[Dt.l [],.z 2]=[.l (bn p k s).1,.z (bn p k s).2]
  unfold bn
  rw[if_pos hok,if_neg (fun h=>hm h.2)]
 have hm:smay s=true:=m1.symm.trans c3
 have hst:bn p k s=((aK p k s).1.map sRow,(aK p k s).2):=by
  unfold bn
  rw[if_pos hok,if_pos ⟨⟨h0,hk9⟩,hm⟩];rfl
 have herr:∀e:Int,(aK p k s)=([],e)->bn p k s=([],e):=fun e he=>by
  rw[hst,he];rfl
 have hx:imay (ab p.l k)=true:=jc hl hok (Int.natCast_nonneg k) hk9
 have hd:=nb hx
 obtain⟨R,hR,hR2⟩:=anl hx
 refine ar (aas (ab p.l k) []) (by rw[ane];simp only[E.R,E.I,F0.l,F0.i];rfl) trivial (fun e=> ?_)
 have e181:U.i 177=(R:Int):=by
  have e:=e
  rw[show sP_vstep.F 2=mS from rfl,avp,hR] at e
  exact e.1
 clear e
 refine⟨fun ds=>∃m:Nat,ds=[.z (m:Int)]/\UInv s R m,fun ds=>(dI ds 0).toNat,⟨R,by simp only[E.D,E.I,e181],.init hR2⟩,?_⟩
 intro U2 ha2 _ hi2
 obtain⟨n,hds,hU⟩:=hi2
 rw[show varsD U2 178 [.int .i64]=[.z (U2.i 178)] from rfl] at hds ⊢
 simp only[thm5,Dt.z.injEq,and_true] at hds
 have F2:=F0.ag ha2 (by decide)
 refine⟨fun c3=> ?_,fun c3=> ?_⟩
 ·
  have hn:0<n:=by
   simp only[E.B,E.I,hds] at c3
   have:=thm3 c3
   omega
  refine ar [.z (IntKind.u64.wrap n)] (by simp only[E.D,E.I,hds]) trivial (fun e=> ?_)
  have e183:U2.i 179=tzI (IntKind.u64.wrap n):=e.1
  clear e
  have hz:=asU hn hU.lt
  have cB:(E.eq (.nth (.var 179) (.sv 3 11)) (.lit 0)).B U2=((dg s).getD (tzI (IntKind.u64.wrap n)).toNat 0==0):=by
   show(((E.sv 3 11).L U2).getD (U2.i 179).toNat 0==0)=_
   rw[show(E.sv 3 11).L U2=dg (staV U2 3) from rfl,F2.s,e183]
  refine⟨fun c=> ?_,fun _=>⟨fun _=>⟨fun c4=> ?_,fun c4=> ?_⟩,fun c=> ?_⟩⟩
  ·simp only[E.B,E.I,e183] at c
   have:=thm3 c
   omega
  ·rw[cB] at c4
   have hb:kp s R=true:=hU.bad hn c4
   have hvs:aK p k s=([],110):=by
    unfold aK
    rw[hR,dj,if_pos hb]
   show[Dt.l [],.z 110]=[.l (bn p k s).1,.z (bn p k s).2]
   rw[herr 110 hvs]
  ·rw[cB] at c4
   obtain⟨m2,e1,e2,e3⟩:=hU.next hn c4
   refine au ⟨⟨m2,?_,e2⟩,?_⟩
   ·simp only[E.D,E.I,hds,e1]
   ·show((E.bin .and .i64 (.var 178) (.bin .sub .i64 (.var 178) (.lit 1))).I U2).toNat<(U2.i 178).toNat
    simp only[E.I,hds,e1]
    omega
  ·simp only[E.B,E.I,e183] at c
   have:=thm2 c
   omega
 have hn:n=0:=by
  simp only[E.B,E.I,hds] at c3
  have:=thm2 c3
  omega
 subst hn
 have hu:kp s R=false:=hU.good
 have X5:∀U,SF p k s U->(E.lt (.get (.lw 1) (.var 2) 5) (.lit 0)).B U=false/\(E.lt (.get (.lw 1) (.var 2) 5) (.lit 11)).B U=true:=fun U F=>by
  have h5:(E.get (.lw 1) (.var 2) 5).I U=(ab p.l k).d:=F.X 5
  simp only[E.B]
  rw[h5]
  exact⟨fW (by show¬(ab p.l k).d<0;omega),dU (by show(ab p.l k).d<11;omega)⟩
 have X6:(E.lt (.get (.lw 1) (.var 2) 6) (.lit 0)).B U2=false/\(E.lt (.get (.lw 1) (.var 2) 6) (.lit 11)).B U2=true:=by
  have h6:(E.get (.lw 1) (.var 2) 6).I U2=(ab p.l k).s:=F2.X 6
  simp only[E.B]
  rw[h6]
  exact⟨fW (by show¬(ab p.l k).s<0;omega),dU (by show(ab p.l k).s<11;omega)⟩
 refine⟨fun c=>(by rw[X6.1] at c;cases c),fun _=>⟨fun _=> ?_,fun c=>(by rw[X6.2] at c;cases c)⟩⟩
 refine⟨fun ds=>ds=d_Ty (bl (ab p.l k) s) [],⟨fun c=>au ?_,fun c=> ?_⟩,?_⟩
 ·have hb:(ab p.l k).br=true:=by
   simp only[E.B,E.R,E.I,F2.l,F2.i] at c
   exact c
  rw[ajY,F2.s,show(E.get (.lw 1) (.var 2) 6).I U2=(ab p.l k).s from F2.X 6]
  unfold bl
  rw[if_pos hb];rfl
 ·have hb:¬(ab p.l k).br=true:=by
   simp only[E.B,E.R,E.I,F2.l,F2.i] at c
   exact fun h=>by rw[show(gt p.l k 4==1)=true from h] at c;cases c
  refine ar [.z (IntKind.u64.wrap (ab p.l k).imm)] (by
   show[Dt.z (IntKind.u64.wrap ((E.get (.lw 1) (.var 2) 8).I U2))]=_
   rw[F2.X 8];rfl) trivial (fun e=> ?_)
  rw[show sP_vstep.F 5=dc from rfl,aoA] at e
  have e1:=(adI (ks:=[]) e).1
  refine ar (dSc (vone (IntKind.u64.wrap (ab p.l k).imm)) []) (by rw[yu,e1];rfl) trivial (fun e=>au ?_)
  rw[show sP_vstep.F 14=dO from rfl,rK] at e
  rw[anb,jw e]
  unfold bl
  rw[if_neg hb];rfl
 intro U3 ha3 _ hi3
 have F3:=F2.ag ha3 (by decide)
 have hB3:tyV U3 179=bl (ab p.l k) s:=acL (r:=[]) (r':=[]) hi3
 clear hi3
 refine ar (.z k::aas (ab p.l k) []) (by
  show Dt.z (U3.i 2)::(E.ins (.lw 1) (.var 2) .nil).D U3=_
  rw[ane,F3.i,show(E.lw 1).R U3=p.l from F3.l,show(E.var 2).I U3=(k:Int) from F3.i];rfl) trivial (fun e=> ?_)
 rw[show sP_vstep.F 4=fw from rfl,aoF] at e
 have t1:U3.i 188=(itgt k (ab p.l k)).1:=e.1
 have t2:U3.b 189=(itgt k (ab p.l k)).2:=e.2.1.trans (eQ _)
 clear e
 have kx:∀(U:Env),SF p k s U->∀z:Int,(E.eq (.get (.lw 1) (.var 2) 0) (.lit z)).B U=((ab p.l k).k==z):=fun U F z=>by
  show((E.get (.lw 1) (.var 2) 0).I U==z)=_
  rw[F.X 0];rfl
 refine⟨fun ds=>ds=[.z (b2i (dR (ab p.l k)))],⟨fun c=>au ?_,fun c=>au ?_⟩,?_⟩
 ·show[Dt.z (b2i false)]=_
  unfold dR
  rw[show((ab p.l k).k==4)=true from(kx U3 F3 4).symm.trans c];rfl
 ·show[Dt.z (b2i (!((E.get (.lw 1) (.var 2) 0).I U3==6)))]=_
  rw[F3.X 0]
  unfold dR
  rw[show((ab p.l k).k==4)=false from(kx U3 F3 4).symm.trans c];rfl
 intro U4 ha4 _ hi4
 have f4:U4.b 190=dR (ab p.l k):=kj (Dt.z.inj (List.cons.inj hi4).1)
 clear hi4
 have F4:=F3.ag ha4 (by decide)
 have hB4:tyV U4 179=bl (ab p.l k) s:=(mM ha4 (by decide)).trans hB3
 have hl1:(E.lw 1).R U4=p.l:=F4.l
 have h180:(E.var 2).I U4=(k:Int):=F4.i
 have hS4:staV U4 3=s:=F4.s
 have h5:(E.get (.lw 1) (.var 2) 5).I U4=(ab p.l k).d:=F4.X 5
 have h6:(E.get (.lw 1) (.var 2) 6).I U4=(ab p.l k).s:=F4.X 6
 have verr:∀(s1:Sta) (e:Int),vmid p (ab p.l k) s=(s1,e)->e≠0->bn p k s=([],e):=fun s1 e h h0=>herr e (by
  unfold aK
  rw[hR,dj,hu,h,if_neg (by simp),if_neg h0])
 have z3:bO (ab p.l k).sz=true->(E.conv .i64 (.get (.lw 1) (.var 2) 3)).I U4=(ab p.l k).sz:=fun hz=>by
  show IntKind.i64.wrap ((E.get (.lw 1) (.var 2) 3).I U4)=_
  rw[F4.X 3];exact afA hz
 have wz:∀{t:Ty},aB p.ctx t (ab p.l k).off (ab p.l k).sz=true->bO (ab p.l k).sz=true:=fun {t} h=>by
  unfold aB at h
  rw[thm0,thm0] at h
  exact h.2.1
 refine⟨fun ds=>∃s1,ds=av s1 []/\vmid p (ab p.l k) s=(s1,0),?_,?_⟩
 ·refine⟨fun c0=> ?_,fun c0=>⟨fun c1=> ?_,fun c1=>⟨fun c2=> ?_,fun c2=>⟨fun c5=> ?_,fun c5=> ?_⟩⟩⟩⟩
  ·
   have hk:(ab p.l k).k=0:=eqI ((kx U4 F4 0).symm.trans c0)
   refine⟨fun c=>(by rw[(X5 U4 F4).1] at c;cases c),fun _=>⟨fun _=> ?_,fun c=>(by rw[(X5 U4 F4).2] at c;cases c)⟩⟩
   refine ar (.l (insR (ab p.l k))::d_Ty (tnth s (ab p.l k).d) (d_Ty (bl (ab p.l k) s) [])) (by
    show Dt.l ((E.lq .ln (.ins (.lw 1) (.var 2) .nil)).R U4)::(E.tn (.get (.lw 1) (.var 2) 5) 3 9 (.vs 179 9 .nil)).D U4=_
    rw[ad6,ajY,anb,hB4,hS4,h180,h5,hl1];rfl) rfl (fun e=> ?_)
   rw[show sP_vstep.F 7=ig from rfl,aoC] at e
   have eT:=jw e
   refine au ⟨_,by rw[anc (n:=3),hS4,h5,eT];rfl,?_⟩
   unfold vmid;rw[if_pos hk]
  ·
   have hk0:(ab p.l k).k≠0:=neI ((kx U4 F4 0).symm.trans c0)
   have hk:(ab p.l k).k=1:=eqI ((kx U4 F4 1).symm.trans c1)
   refine ar (.z p.ctx::.l p.l::.l (insR (ab p.l k))::d_Ty (tnth s (ab p.l k).s) []) (by
    show Dt.z (U4.i 0)::Dt.l (U4.l 1)::Dt.l ((E.lq .ln (.ins (.lw 1) (.var 2) .nil)).R U4)::(E.tn (.get (.lw 1) (.var 2) 6) 3 9 .nil).D U4=_
    rw[ad6,ajY,hS4,h180,h6,hl1,F4.c,F4.l];rfl) ⟨rfl,hl⟩ (fun e=> ?_)
   rw[show sP_vstep.F 8=fv from rfl,acU] at e
   have a1:U4.i 191=alo (tnth s (ab p.l k).s) (ab p.l k):=e.1
   have a2:U4.i 192=ahi (tnth s (ab p.l k).s) (ab p.l k):=e.2.1
   have a3:U4.b 193=aB p.ctx (tnth s (ab p.l k).s) (ab p.l k).off (ab p.l k).sz:=e.2.2.1.trans (eQ _)
   clear e
   refine⟨fun cw=> ?_,fun cw=> ?_⟩
   ·have hw:=a3.symm.trans cw
    have hz:=z3 (wz hw)
    refine ar [.z (ab p.l k).sz] (by
     show[Dt.z ((E.conv .i64 (.get (.lw 1) (.var 2) 3)).I U4)]=_
     rw[hz]) trivial (fun e=> ?_)
    rw[show sP_vstep.F 9=gK from rfl,avq] at e
    have e1:=(adI (ks:=[]) e).1
    refine ar (dSc (vbyt (ab p.l k).sz) []) (by rw[yu,e1];rfl) trivial (fun e=> ?_)
    rw[show sP_vstep.F 14=dO from rfl,rK] at e
    have eT:=jw e
    clear e
    refine⟨fun c=>(by rw[(X5 U4 F4).1] at c;cases c),fun _=>⟨fun _=> ?_,fun c=>(by rw[(X5 U4 F4).2] at c;cases c)⟩⟩
    have c3e:(E.eq (.nth (.get (.lw 1) (.var 2) 6) (.sv 3 11)) (.lit 3)).B U4=((tnth s (ab p.l k).s).k==3):=by
     show(((E.sv 3 11).L U4).getD ((E.get (.lw 1) (.var 2) 6).I U4).toNat 0==3)=_
     rw[show(E.sv 3 11).L U4=dg (staV U4 3) from rfl,hS4,h6];rfl
    refine⟨fun c3=> ?_,fun c3=> ?_⟩
    ·have h3:(tnth s (ab p.l k).s).k=3:=eqI (c3e.symm.trans c3)
     refine ar (av (sreg s (ab p.l k).d (tsc (vbyt (ab p.l k).sz))) [.z (alo (tnth s (ab p.l k).s) (ab p.l k)),.z (ahi (tnth s (ab p.l k).s) (ab p.l k)),.z (ab p.l k).sz]) (by
      rw[anc (n:=3),hS4,h5,eT]
      show av _ [Dt.z (U4.i 191),.z (U4.i 192),.z ((E.conv .i64 (.get (.lw 1) (.var 2) 3)).I U4)]=_
      rw[hz,a1,a2]) trivial (fun e=> ?_)
     rw[show sP_vstep.F 11=dz from rfl,ajX] at e
     have eL:=aso e
     have eE:U4.i 218=_:=aor e
     clear e
     have hv:vmid p (ab p.l k) s=(sreg (sreg s (ab p.l k).d (tsc (vbyt (ab p.l k).sz))) (ab p.l k).d (tyV U4 209),U4.i 218):=by
      unfold vmid
      rw[if_neg hk0,if_pos hk,if_pos hw]
      unfold vld
      rw[if_pos h3,eL,eE]
     refine⟨fun c9=> ?_,fun c9=> ?_⟩
     ·have h0:U4.i 218=0:=eqI c9
      refine au ⟨_,by rw[avt (n:=3),hS4,h5,eT];rfl,?_⟩
      rw[hv,h0]
     ·have h0:U4.i 218≠0:=neI c9
      show[Dt.l [],.z (U4.i 218)]=[.l (bn p k s).1,.z (bn p k s).2]
      rw[verr _ _ hv h0]
    ·have h3:¬(tnth s (ab p.l k).s).k=3:=neI (c3e.symm.trans c3)
     refine au ⟨_,by rw[anc (n:=3),hS4,h5,eT];rfl,?_⟩
     unfold vmid
     rw[if_neg hk0,if_pos hk,if_pos hw]
     unfold vld
     rw[if_neg h3]
   ·have hw:¬aB p.ctx (tnth s (ab p.l k).s) (ab p.l k).off (ab p.l k).sz=true:=by
     rw[a3.symm.trans cw];simp
    show[Dt.l [],.z 111]=[.l (bn p k s).1,.z (bn p k s).2]
    rw[verr s 111 (by unfold vmid;rw[if_neg hk0,if_pos hk,if_neg hw]) (by decide)]
  ·
   have hk0:(ab p.l k).k≠0:=neI ((kx U4 F4 0).symm.trans c0)
   have hk1:(ab p.l k).k≠1:=neI ((kx U4 F4 1).symm.trans c1)
   have hk:(ab p.l k).k=2:=eqI ((kx U4 F4 2).symm.trans c2)
   refine⟨fun c=>(by rw[(X5 U4 F4).1] at c;cases c),fun _=>⟨fun _=> ?_,fun c=>(by rw[(X5 U4 F4).2] at c;cases c)⟩⟩
   refine ar (.z p.ctx::.l p.l::.l (insR (ab p.l k))::d_Ty (tnth s (ab p.l k).d) []) (by
    show Dt.z (U4.i 0)::Dt.l (U4.l 1)::Dt.l ((E.lq .ln (.ins (.lw 1) (.var 2) .nil)).R U4)::(E.tn (.get (.lw 1) (.var 2) 5) 3 9 .nil).D U4=_
    rw[ad6,ajY,hS4,h180,h5,hl1,F4.c,F4.l];rfl) ⟨rfl,hl⟩ (fun e=> ?_)
   rw[show sP_vstep.F 8=fv from rfl,acU] at e
   have a1:U4.i 191=alo (tnth s (ab p.l k).d) (ab p.l k):=e.1
   have a2:U4.i 192=ahi (tnth s (ab p.l k).d) (ab p.l k):=e.2.1
   have a3:U4.b 193=aB p.ctx (tnth s (ab p.l k).d) (ab p.l k).off (ab p.l k).sz:=e.2.2.1.trans (eQ _)
   clear e
   refine⟨fun cw=> ?_,fun cw=> ?_⟩
   ·have hw:=a3.symm.trans cw
    have hz:=z3 (wz hw)
    have c3e:(E.eq (.nth (.get (.lw 1) (.var 2) 5) (.sv 3 11)) (.lit 3)).B U4=((tnth s (ab p.l k).d).k==3):=by
     show(((E.sv 3 11).L U4).getD ((E.get (.lw 1) (.var 2) 5).I U4).toNat 0==3)=_
     rw[show(E.sv 3 11).L U4=dg (staV U4 3) from rfl,hS4,h5];rfl
    refine⟨fun c3=> ?_,fun c3=> ?_⟩
    ·have h3:(tnth s (ab p.l k).d).k=3:=eqI (c3e.symm.trans c3)
     refine ar (av s (.z (alo (tnth s (ab p.l k).d) (ab p.l k))::.z (ahi (tnth s (ab p.l k).d) (ab p.l k))::.z (ab p.l k).sz::d_Ty (tnth s (ab p.l k).s) [])) (by
      rw[yr,hS4]
      show av _ (Dt.z (U4.i 191)::.z (U4.i 192)::.z ((E.conv .i64 (.get (.lw 1) (.var 2) 3)).I U4)::(E.tn (.get (.lw 1) (.var 2) 6) 3 9 .nil).D U4)=_
      rw[ajY,hz,a1,a2,hS4,h6];rfl) trivial (fun e=> ?_)
     rw[show sP_vstep.F 12=cD from rfl,acV] at e
     have eL:=amT e
     have eE:U4.i 365=_:=aos e
     clear e
     have hv:vmid p (ab p.l k) s=(staV U4 194,U4.i 365):=by
      unfold vmid
      rw[if_neg hk0,if_neg hk1,if_pos hk,if_pos hw]
      unfold vsv
      rw[if_pos h3,eL,eE]
     refine⟨fun c9=> ?_,fun c9=> ?_⟩
     ·have h0:U4.i 365=0:=eqI c9
      refine au ⟨_,by rw[yr];rfl,?_⟩
      rw[hv,h0]
     ·have h0:U4.i 365≠0:=neI c9
      show[Dt.l [],.z (U4.i 365)]=[.l (bn p k s).1,.z (bn p k s).2]
      rw[verr _ _ hv h0]
    ·have h3:¬(tnth s (ab p.l k).d).k=3:=neI (c3e.symm.trans c3)
     refine au ⟨_,by rw[yr,hS4];rfl,?_⟩
     unfold vmid
     rw[if_neg hk0,if_neg hk1,if_pos hk,if_pos hw]
     unfold vsv
     rw[if_neg h3]
   ·have hw:¬aB p.ctx (tnth s (ab p.l k).d) (ab p.l k).off (ab p.l k).sz=true:=by
     rw[a3.symm.trans cw];simp
    show[Dt.l [],.z 111]=[.l (bn p k s).1,.z (bn p k s).2]
    rw[verr s 111 (by unfold vmid;rw[if_neg hk0,if_neg hk1,if_pos hk,if_neg hw]) (by decide)]
  ·
   have hk:(ab p.l k).k=5:=eqI ((kx U4 F4 5).symm.trans c5)
   refine ar (xs:=[]) rfl trivial (fun e=> ?_)
   have eT:tyV U4 191=tscal:=jw e
   refine au ⟨_,by rw[asI (n:=3),hS4,eT],?_⟩
   unfold vmid
   rw[if_neg (by omega),if_neg (by omega),if_neg (by omega),if_pos hk];rfl
  ·have hk0:(ab p.l k).k≠0:=neI ((kx U4 F4 0).symm.trans c0)
   have hk1:(ab p.l k).k≠1:=neI ((kx U4 F4 1).symm.trans c1)
   have hk2:(ab p.l k).k≠2:=neI ((kx U4 F4 2).symm.trans c2)
   have hk5:(ab p.l k).k≠5:=neI ((kx U4 F4 5).symm.trans c5)
   refine au ⟨_,by rw[yr,hS4];rfl,?_⟩
   unfold vmid
   rw[if_neg hk0,if_neg hk1,if_neg hk2,if_neg hk5]
 intro U5 ha5 _ hi5
 obtain⟨s1,hds,hmid⟩:=hi5
 have hS5:staV U5 191=s1:=qf (r:=[]) (r':=[]) hds
 clear hds
 have F5:=F4.ag ha5 (by decide)
 have hB5:tyV U5 179=bl (ab p.l k) s:=(mM ha5 (by decide)).trans hB4
 refine⟨fun c=>(by rw[(X5 U5 F5).1] at c;cases c),fun _=>⟨fun _=> ?_,fun c=>(by rw[(X5 U5 F5).2] at c;cases c)⟩⟩
 have cae:(E.eq (.nth (.get (.lw 1) (.var 2) 5) (.sv 191 11)) (.lit 1)).B U5=((tnth s1 (ab p.l k).d).k==1):=by
  show(((E.sv 191 11).L U5).getD ((E.get (.lw 1) (.var 2) 5).I U5).toNat 0==1)=_
  rw[show(E.sv 191 11).L U5=dg (staV U5 191) from rfl,hS5,F5.X 5];rfl
 refine⟨fun ds=>ds=[.z (b2i (eU (ab p.l k) s1 (bl (ab p.l k) s)))],⟨fun c3=>⟨fun ca=>au ?_,fun ca=>au ?_⟩,fun c3=>au ?_⟩,?_⟩
 ·show[Dt.z (b2i ((tyV U5 179).k==1))]=_
  rw[hB5]
  unfold eU
  rw[show((ab p.l k).k==3)=true from(kx U5 F5 3).symm.trans c3,cae.symm.trans ca];rfl
 ·show[Dt.z (b2i false)]=_
  unfold eU
  rw[cae.symm.trans ca,aP,aO]
 ·show[Dt.z (b2i false)]=_
  unfold eU
  rw[show((ab p.l k).k==3)=false from(kx U5 F5 3).symm.trans c3];rfl
 intro U6 ha6 _ hi6
 have q6:U6.b 362=eU (ab p.l k) s1 (bl (ab p.l k) s):=kj (Dt.z.inj (List.cons.inj hi6).1)
 clear hi6
 have F6:=F5.ag ha6 (by decide)
 have hS6:=(nX ha6 (by decide)).trans hS5
 have hB6:tyV U6 179=bl (ab p.l k) s:=(mM ha6 (by decide)).trans hB5
 have f6:=(ha6 190 (by decide)).2.1.symm.trans ((ha5 190 (by decide)).2.1.symm.trans f4)
 have t16:=(ha6 188 (by decide)).1.symm.trans ((ha5 188 (by decide)).1.symm.trans ((ha4 188 (by decide)).1.symm.trans t1))
 have t26:=(ha6 189 (by decide)).2.1.symm.trans ((ha5 189 (by decide)).2.1.symm.trans ((ha4 189 (by decide)).2.1.symm.trans t2))
 have n6:(E.bin .add .i64 (.var 2) (.lit 1)).I U6=opI .add .i64 (k:Int) 1:=by simp only[E.I,F6.i]
 have h56:(E.get (.lw 1) (.var 2) 5).I U6=(ab p.l k).d:=F6.X 5
 refine ar [.z (ab p.l k).op] (by
  show[Dt.z ((E.get (.lw 1) (.var 2) 1).I U6)]=_
  rw[F6.X 1];rfl) trivial (fun e=> ?_)
 have b7:U6.i 363=gR (ab p.l k).op:=e.1
 have b8:U6.b 364=eO (ab p.l k).op:=e.2.1.trans (eQ _)
 clear e
 have one1:∀S:E,S.L U6=staL s1->(E.cL (.lq .ln (.cons (.bin .add .i64 (.var 2) (.lit 1)) S)) .nil).D U6=[.l ([(opI .add .i64 (k:Int) 1,s1)].map sRow)]:=fun S h=>by
  show[Dt.l ([]++[(E.bin .add .i64 (.var 2) (.lit 1)).I U6::S.L U6])]=_
  rw[n6,h];rfl
 refine⟨fun ds=>ds=[.l ((dp k (ab p.l k) s1 (bl (ab p.l k) s)).map sRow)],⟨fun c=> ?_,fun c=>au ?_⟩,?_⟩
 ·obtain⟨k4,k6⟩:=nT (x:=ab p.l k) (f6.symm.trans c)
  refine⟨fun c6=>⟨fun c8=> ?_,fun c8=>au ?_⟩,fun c6=>au ?_⟩
  ·have hw:=vg (k:=k) (s:=s1) (b:=bl (ab p.l k) s) k4 k6 (by rw[show eU (ab p.l k) s1 (bl (ab p.l k) s)=true from q6.symm.trans c6,show eO (ab p.l k).op=true from b8.symm.trans c8];rfl)
   refine qD (m:=opI .add .i64 (k:Int) 1) F6 hS6 hB6 b7 (fun h=>au ?_) (fun h=>au ?_)
   ·rw[hw,h]
    show[Dt.l ([]++[(E.bin .add .i64 (.var 2) (.lit 1)).I U6::(E.rg (.get (.lw 1) (.var 2) 5) (.vs 372 9 .nil) (.vs 191 99 .nil) (.vs (191+99) 72 .nil)).L U6])]=_
    rw[n6,asF,hS6,h56];rfl
   ·rw[hw,h];rfl
  ·rw[one1 _ (by rw[ad7,hS6]),nq k4 k6 (by rw[show eO (ab p.l k).op=false from b8.symm.trans c8,aO])]
  ·rw[one1 _ (by rw[ad7,hS6]),nq k4 k6 (by rw[show eU (ab p.l k) s1 (bl (ab p.l k) s)=false from q6.symm.trans c6];rfl)]
 ·rw[aaH (aaN (f6.symm.trans c))];rfl
 intro U7 ha7 _ hi7
 have w7:U7.l 365=(dp k (ab p.l k) s1 (bl (ab p.l k) s)).map sRow:=Dt.l.inj (List.cons.inj hi7).1
 clear hi7
 have F7:=F6.ag ha7 (by decide)
 have hS7:=(nX ha7 (by decide)).trans hS6
 have hB7:tyV U7 179=bl (ab p.l k) s:=(mM ha7 (by decide)).trans hB6
 have q7:=(ha7 362 (by decide)).2.1.symm.trans q6
 have t17:=(ha7 188 (by decide)).1.symm.trans t16
 have t27:=(ha7 189 (by decide)).2.1.symm.trans t26
 have h57:(E.get (.lw 1) (.var 2) 5).I U7=(ab p.l k).d:=F7.X 5
 have hfin:bn p k s=((dp k (ab p.l k) s1 (bl (ab p.l k) s)).map sRow++(fk k (ab p.l k) s1 (bl (ab p.l k) s)).map sRow,0):=by
  have hs:aK p k s=(dp k (ab p.l k) s1 (bl (ab p.l k) s)++fk k (ab p.l k) s1 (bl (ab p.l k) s),0):=by
   unfold aK
   rw[hR,dj,hu,hmid,if_neg (by simp),if_pos rfl]
  rw[hst,hs,List.map_append]
 have hlen:(E.lt (.len (.lw 365)) (.lit 1073741824)).B U7=true:=by
  simp only[E.B,E.I,E.R,w7,List.length_map]
  have:=akc k (ab p.l k) s1 (bl (ab p.l k) s)
  exact dU (by omega)
 have fin:∀(e:E) (L:List (List Int)),e.R U7=L->L=(dp k (ab p.l k) s1 (bl (ab p.l k) s)).map sRow++(fk k (ab p.l k) s1 (bl (ab p.l k) s)).map sRow->(E.cL e (.cons (.lit 0) .nil)).D U7=[.l (bn p k s).1,.z (bn p k s).2]:=fun e L h h2=>by
  rw[hfin,<-h2,<-h];rfl
 have app:∀S:E,∀s2:Sta,S.L U7=staL s2->(E.lq (.lw 365) (.cons (.var 188) S)).R U7=(dp k (ab p.l k) s1 (bl (ab p.l k) s)).map sRow++[((itgt k (ab p.l k)).1,s2)].map sRow:=fun S s2 h=>by
  show U7.l 365++[U7.i 188::S.L U7]=_
  rw[w7,t17,h];rfl
 refine⟨fun c=> ?_,fun c=> ?_⟩
 rotate_left
 ·refine fin _ _ rfl ?_
  rw[aaG (t27.symm.trans c),List.map_nil,List.append_nil];exact w7
 have hj:(itgt k (ab p.l k)).2=true:=t27.symm.trans c
 refine⟨fun c2=> ?_,fun c2=> ?_⟩
 ·have hw:=vf (k:=k) (s:=s1) (b:=bl (ab p.l k) s) hj (q7.symm.trans c2)
  refine qD (c:=(ab p.l k).op) (m:=(itgt k (ab p.l k)).1) F7 hS7 hB7 (F7.X 1) (fun h=> ?_) (fun h=> ?_)
  ·refine⟨fun _=> ?_,fun c=>(by rw[hlen] at c;cases c)⟩
   refine fin _ _ (app _ (sreg s1 (ab p.l k).d (tyV U7 373)) ?_) ?_
   ·show(E.rg (.get (.lw 1) (.var 2) 5) (.vs 373 9 .nil) (.vs 191 99 .nil) (.vs (191+99) 72 .nil)).L U7=_
    rw[asF,hS7,h57]
   ·rw[hw,h]
  ·refine fin _ _ rfl ?_
   rw[hw,h,List.map_nil,List.append_nil];exact w7
 ·refine⟨fun _=> ?_,fun c=>(by rw[hlen] at c;cases c)⟩
  refine fin _ _ (app _ s1 (by rw[ad7,hS7])) ?_
  rw[aaF hj (q7.symm.trans c2)]
theorem xK:Tryz.prog.follows .mixedOrders=true:=by kernel_rfl
theorem al0 {sp:Spec} {key:Nat} (hF:sp.F key=iU) (hP:sp.pre key=nz) (hH:∀w,sp.hw w->sHw w:=by exact fun _ h=>h):SmOk Tryz.prog sp (tv key):=
 aq (s:=tv key) (hW:=hH) hF hP xK aeF (smc (wY rfl rfl) (smc (mj rfl) (smc (anZ rfl) (smc (at2 rfl) (smc (zG rfl) (smc (oU rfl) (smc (ah2 rfl) (smc (ahG rfl rfl) (smc (ahH rfl rfl) (smc (abI rfl) (smc (gf rfl) (smc (abK rfl) (smc (wV rfl) (smc (ahF rfl) (smc (ahD rfl) sm0))))))))))))))) Tryz.func15 (fnc Tryz.func38 (fnc Tryz.func86 (fnc Tryz.func87 fn0))) alu (.inr (.inl ⟨(fun xs h L hL=>by unfold nz at h;split at h<;>first | exact h.elim | (obtain⟨h,hr⟩:=h;simp[aiA hr] at hL;subst hL;exact h)),rfl⟩)) (fun x0 gx0 x1 gx1 x2 gx2=>cS fun q3 gq3=>fun hp U g=>akU ⟨x0,x1⟩ ⟨gx0,gx1⟩ x2 gx2 q3 gq3 hp U g)
def z_Kn:List C:=[.int .u64 (.lit 0),.int .u64 (.lit 0)]
theorem auX:Tryz.prog.eqGuardType Tryz.prog.depth 46=false:=by kernel_rfl
theorem adV:Tryz.prog.cellsOf 46=2:=by kernel_rfl
theorem ad2:Tryz.prog.cellsOf 42=1:=by kernel_rfl
theorem avS (vs:List Value) (hv:aF vs z_Kn):Tryz.prog.keyLits 6 46 vs=some (bJ vs):=by
 obtain⟨x0,_,rfl,g0,hv⟩:=ak hv
 obtain⟨x1,_,rfl,g1,hv⟩:=ak hv
 obtain rfl:=aU hv
 simp[Program.keyLits,Tryz.underlying46,Tryz.underlying42,adV,ad2,xV,bJ,g0,g1]
theorem awr (vs:List Value) (hv:aF vs z_Kn):(Value.agg vs.toArray).formed Tryz.prog 46=true:=by
 obtain⟨x0,_,rfl,g0,hv⟩:=ak hv
 obtain⟨x1,_,rfl,g1,hv⟩:=ak hv
 obtain rfl:=aU hv
 kernel_rfl
theorem awv (vs us:List Value) (hv:aF vs z_Kn) (hu:aF us z_Kn) (w:World):(Op.equal 46 (.agg vs.toArray) (.agg us.toArray)).run Tryz.prog w=.ok (eqVs vs us) w:=
 eh (by kernel_rfl) awr 6 avS vs us hv hu w
def tys_VzI:List (Nat×TI):=[(2,tiq2),
 (3,tiq3),
 (4,tiq4),
 (27,ac1),
 (37,gP),
 (42,fF),
 (44,gO),
 (46,⟨true,2,[.int .u64 (.lit 0),.int .u64 (.lit 0)],[(0,42),(1,42)],none,none,true,false,none,16,false,none,false,0⟩),
 (48,dy),
 (50,qr),
 (51,si),
 (52,sf),
 (54,ac0)]
theorem afa:(tys_VzI.all fun p=>ckTI Tryz.prog p.1 p.2)=true:=by kernel_rfl
theorem vz:(tys_VzI.all fun p=>!p.2.eqok||((Nat.beq p.1 46&&aN p.2.zero z_Kn)||(Nat.beq p.1 48&&aN p.2.zero z_Sc)||(Nat.beq p.1 50&&aN p.2.zero z_Ty)))=true:=by kernel_rfl
theorem aeO:(tys_VzI.all fun p=>!p.2.keyok)=true:=by kernel_rfl
theorem kq:∀t i,(t,i)∈tys_VzI->TIok Tryz.prog t i:=by
 intro t i h
 refine bB (cz (f:=ckTI Tryz.prog) afa h) (fun he=> ?_) (fun he=> ?_) (fun he=> ?_)
 ·have h1:=thm7.1 vz (t,i) h
  simp only[he,Bool.not_true,Bool.false_or,bH,thm0] at h1
  rcases h1 with(h1 | h1) | h1
  ·have hs:=h1.2
   obtain rfl:=thm1 h1.1
   exact fun vs us hv hu=>awv vs us (an hs hv) (an hs hu)
  ·have hs:=h1.2
   obtain rfl:=thm1 h1.1
   exact fun vs us hv hu=>qy vs us (an hs hv) (an hs hu)
  ·have hs:=h1.2
   obtain rfl:=thm1 h1.1
   exact fun vs us hv hu=>qx vs us (an hs hv) (an hs hu)
 ·have h1:=thm7.1 vz (t,i) h
  simp only[he,Bool.not_true,Bool.false_or,bH,thm0] at h1
  rcases h1 with(h1 | h1) | h1
  ·have hs:=h1.2
   obtain rfl:=thm1 h1.1
   exact auX
  ·have hs:=h1.2
   obtain rfl:=thm1 h1.1
   exact jv
  ·have hs:=h1.2
   obtain rfl:=thm1 h1.1
   exact ju
 ·have h1:=thm7.1 aeO (t,i) h
  simp[he] at h1
def ahy (key:Nat):Sm:=⟨185,key,[.agg kKn,.agg kKn],[.one .bool],false⟩
def ags (a:Kn) (b:Kn):List Dt:=[.z (b2i (kin a b))]
def xj:List Dt->List Dt
 | [.z x0,.z x1,.z x2,.z x3]=>ags ⟨x0,x1⟩ ⟨x2,x3⟩
 | _=>[]
def sT_kin:Tr:=
(.call 0 [.bool] (.vs 0 2 .nil) 4
(.br (.bw 4)
(.call 0 [.bool] (.vs 2 2 .nil) 5
(.br (.bw 5)
(.br (.eq (.bin .or .u64 (.var 1) (.var 3)) (.var 3))
(.call 3 (kKn) (.cons (.var 0) (.cons (.var 3) .nil)) 6
(.leaf (.cb (.and (.eq (.var 6) (.var 2)) (.and (.eq (.var 7) (.var 3)) (.tt true))) .nil)))
(.leaf (.cb (.tt false) .nil)))
(.leaf (.cb (.tt false) .nil))))
(.leaf (.cb (.tt false) .nil))))
def anR:Spec:={F:=fun k=>match k with | 0=>cN | 1=>cO | 2=>dZ | 3=>bE | _=>fun _=>[],pre:=fun _ _=>True}
theorem atJ:ap tys_VzI [ia 0,ib 1,kE 2,dY 3] [] [] [] 200 Tryz.f185 [.agg kKn,.agg kKn] [.one .bool] false [.int .u64,.int .u64,.int .u64,.int .u64] sT_kin:=⟨by kernel_rfl,by kernel_rfl,by kernel_rfl⟩
def ay:=And.intro Prog.eta (Ins.eta)
theorem atl (a:Kn) (ha:Kn.ok a) (b:Kn) (hb:Kn.ok b) (U:Env) (g:varsD U 0 [.int .u64,.int .u64,.int .u64,.int .u64]=[.z a.v,.z a.m,.z b.v,.z b.m]):sT_kin.asks anR (fun U e=>e.D U=xj [.z a.v,.z a.m,.z b.v,.z b.m]) U fun _ _=>False:=by
 simp only[varsD,varD,thm5,gS0,Nat.reduceAdd,and_true] at g
 simp only[sT_kin,anR,kKn,cN,cO,dZ,bE,gZ,kz,dW,xj,ags,simQ,ai,S1,Nat.reduceSub,Nat.reduceAdd,-eq_self,am,ay,af,ah,g]
 intro e;(try simp only[e,am,ay,af,ah,-eq_self]);clear e
 constructor<;>intro c0
 intro e;(try simp only[e,am,ay,af,ah,-eq_self]);clear e
 constructor<;>intro c1
 constructor<;>intro c2
 intro e;(try simp only[e,am,ay,af,ah,-eq_self]);clear e
 ·(unfold kin;simp_all [eG,opI];try (intros;assumption))
 ·(unfold kin;simp_all [eG,opI];try (intros;assumption))
 ·(unfold kin;simp_all [eG,opI];try (intros;assumption))
 ·(unfold kin;simp_all [eG,opI];try (intros;assumption))
theorem at9 {sp:Spec} {key:Nat} (hF:sp.F key=xj) (hP:sp.pre key=fun _=>True:=by rfl):SmOk Tryz.prog sp (ahy key):=
 aq (s:=ahy key) hF hP xK kq (smc (ml rfl) (smc (mm rfl) (smc (uf rfl) (smc (gg rfl) sm0)))) Tryz.func185 fn0 atJ (.inl rfl) (fun x0 gx0 x1 gx1 x2 gx2 x3 gx3 hp U g=>atl ⟨x0,x1⟩ ⟨gx0,gx1⟩ ⟨x2,x3⟩ ⟨gx2,gx3⟩ U g)
def ahr (key:Nat):Sm:=⟨139,key,[.agg kSc,.agg kSc],[.one .bool],false⟩
def agi (a:Sc) (b:Sc):List Dt:=[.z (b2i ((bin a.r b.r&&kin a.k b.k)))]
def xb:List Dt->List Dt
 | [.z x0,.z x1,.z x2,.z x3,.z x4,.z x5,.z x6,.z x7,.z x8,.z x9,.z x10,.z x11]=>agi ⟨x0,x1,x2,x3,x4,x5⟩ ⟨x6,x7,x8,x9,x10,x11⟩
 | _=>[]
def sT_vin:Tr:=
(.call 0 [.bool] (.vs 0 4 (.vs 6 4 .nil)) 12
(.br (.bw 12)
(.call 1 [.bool] (.vs 4 2 (.vs 10 2 .nil)) 13
(.leaf (.cb (.bw 13) .nil)))
(.leaf (.cb (.tt false) .nil))))
def anE:Spec:={F:=fun k=>match k with | 0=>ah4 | 1=>xj | _=>fun _=>[],pre:=fun _ _=>True}
theorem atw:ap tys_VzI [arh 0,ahy 1] [] [] [] 200 Tryz.f139 [.agg kSc,.agg kSc] [.one .bool] false [.int .u64,.int .u64,.int .i64,.int .i64,.int .u64,.int .u64,.int .u64,.int .u64,.int .i64,.int .i64,.int .u64,.int .u64] sT_vin:=⟨by kernel_rfl,by kernel_rfl,by kernel_rfl⟩
theorem as7 (a:Sc) (ha:Sc.ok a) (b:Sc) (hb:Sc.ok b) (U:Env) (g:varsD U 0 [.int .u64,.int .u64,.int .i64,.int .i64,.int .u64,.int .u64,.int .u64,.int .u64,.int .i64,.int .i64,.int .u64,.int .u64]=[.z a.ul,.z a.uh,.z a.sl,.z a.sh,.z a.v,.z a.m,.z b.ul,.z b.uh,.z b.sl,.z b.sh,.z b.v,.z b.m]):sT_vin.asks anE (fun U e=>e.D U=xb [.z a.ul,.z a.uh,.z a.sl,.z a.sh,.z a.v,.z a.m,.z b.ul,.z b.uh,.z b.sl,.z b.sh,.z b.v,.z b.m]) U fun _ _=>False:=by
 simp only[varsD,varD,thm5,gS0,Nat.reduceAdd,and_true] at g
 simp only[sT_vin,anE,ah4,xj,aqA,ags,xb,agi,simQ,ai,S1,Nat.reduceSub,Nat.reduceAdd,-eq_self,am,ay,af,ah,g]
 intro e;(try simp only[e,am,ay,af,ah,-eq_self]);clear e
 constructor<;>intro c0
 intro e;(try simp only[e,am,ay,af,ah,-eq_self]);clear e
 ·(simp_all)
 ·(simp_all)
theorem atX {sp:Spec} {key:Nat} (hF:sp.F key=xb) (hP:sp.pre key=fun _=>True:=by rfl):SmOk Tryz.prog sp (ahr key):=
 aq (s:=ahr key) hF hP xK kq (smc (avM rfl) (smc (at9 rfl) sm0)) Tryz.func139 fn0 atw (.inl rfl) (fun x0 gx0 x1 gx1 x2 gx2 x3 gx3 x4 gx4 x5 gx5 x6 gx6 x7 gx7 x8 gx8 x9 gx9 x10 gx10 x11 gx11 hp U g=>as7 ⟨x0,x1,x2,x3,x4,x5⟩ ⟨gx0,gx1,gx2,gx3,gx4,gx5⟩ ⟨x6,x7,x8,x9,x10,x11⟩ ⟨gx6,gx7,gx8,gx9,gx10,gx11⟩ U g)
def tK (key:Nat):Sm:=⟨75,key,[.agg kTy,.agg kTy],[.one .bool],false⟩
def sN (a:Ty) (b:Ty):List Dt:=[.z (b2i (twi a b))]
def kT:List Dt->List Dt
 | [.z x0,.z x1,.z x2,.z x3,.z x4,.z x5,.z x6,.z x7,.z x8,.z x9,.z x10,.z x11,.z x12,.z x13,.z x14,.z x15,.z x16,.z x17]=>sN ⟨x0,x1,x2,x3,x4,x5,x6,x7,x8⟩ ⟨x9,x10,x11,x12,x13,x14,x15,x16,x17⟩
 | _=>[]
def qn:Tr:=(.br (.eq (.var 0) (.var 9))
(.br (.eq (.var 0) (.lit 1))
(.call 1 [.bool] (.vs 1 6 (.vs 10 6 .nil)) 27
(.leaf (.cb (.bw 27) .nil)))
(.br (.lt (.var 7) (.var 16))
(.leaf (.cb (.tt false) .nil))
(.leaf (.cb (.not (.lt (.var 17) (.var 8))) .nil))))
(.leaf (.cb (.tt false) .nil)))
def sT_twith:Tr:=
(.br (.eq (.var 9) (.lit 0))
(.leaf (.cb (.tt true) .nil))
(.br (.eq (.var 0) (.lit 0))
(.leaf (.cb (.tt false) .nil))
(.call 0 (kTy) .nil 18
(.br (.eq (.var 9) (.var 18))
(.br (.eq (.var 10) (.var 19))
(.br (.eq (.var 11) (.var 20))
(.br (.eq (.var 12) (.var 21))
(.br (.eq (.var 13) (.var 22))
(.br (.eq (.var 14) (.var 23))
(.br (.eq (.var 15) (.var 24))
(.br (.eq (.var 16) (.var 25))
(.br (.eq (.var 17) (.var 26))
(.leaf (.cb (.tt true) .nil))
 qn)
 qn)
 qn)
 qn)
 qn)
 qn)
 qn)
 qn)
 qn))))
def abn:Spec:={F:=fun k=>match k with | 0=>bQ | 1=>xb | _=>fun _=>[],pre:=fun _ _=>True}
theorem alD:ap tys_VzI [dX 0,ahr 1] [] [] [] 200 Tryz.f75 [.agg kTy,.agg kTy] [.one .bool] false (v_Ty (v_Ty ([]))) sT_twith:=⟨by kernel_rfl,by kernel_rfl,by kernel_rfl⟩
theorem ak3 (a:Ty) (ha:Ty.ok a) (b:Ty) (hb:Ty.ok b) (U:Env) (g:varsD U 0 (v_Ty (v_Ty ([])))=(d_Ty a (d_Ty b ([])))):sT_twith.asks abn (fun U e=>e.D U=kT (d_Ty a (d_Ty b ([])))) U fun _ _=>False:=by
 simp only[d_Ty,v_Ty,varsD,varD,thm5,gS0,Nat.reduceAdd,and_true] at g
 simp only[sT_twith,qn,abn,d_Ty,kTy,bQ,xb,agi,kT,sN,simQ,ai,S1,Nat.reduceSub,Nat.reduceAdd,-eq_self,am,ay,af,ah,g]
 constructor<;>intro c0
 ·rw[apz c0]
 constructor<;>intro c1
 ·rw[avz c0 c1]
 intro e;(try simp only[e,am,ay,af,ah,-eq_self]);clear e
 constructor<;>intro c2
 constructor<;>intro c3
 constructor<;>intro c4
 constructor<;>intro c5
 constructor<;>intro c6
 constructor<;>intro c7
 constructor<;>intro c8
 constructor<;>intro c9
 constructor<;>intro c10
 ·rw[apy c0 c1 (by unfold tise;simp only[c2,c3,c4,c5,c6,c7,c8,c9,c10,Bool.and_self])]
 constructor<;>intro c11
 constructor<;>intro c12
 intro e;(try simp only[e,am,ay,af,ah,-eq_self]);clear e
 ·rw[qq c0 c1 (by unfold tise;simp only[c10,aP,aO]) c11 c12]
 constructor<;>intro c13
 ·rw[fV c0 c1 (by unfold tise;simp only[c10,aP,aO]) c11 c12,lC c13]
 ·rw[fV c0 c1 (by unfold tise;simp only[c10,aP,aO]) c11 c12,gz c13]
 ·rw[rZ c0 c1 (by unfold tise;simp only[c10,aP,aO]) c11]
 constructor<;>intro c14
 constructor<;>intro c15
 intro e;(try simp only[e,am,ay,af,ah,-eq_self]);clear e
 ·rw[qq c0 c1 (by unfold tise;simp only[c9,aP,aO]) c14 c15]
 constructor<;>intro c16
 ·rw[fV c0 c1 (by unfold tise;simp only[c9,aP,aO]) c14 c15,lC c16]
 ·rw[fV c0 c1 (by unfold tise;simp only[c9,aP,aO]) c14 c15,gz c16]
 ·rw[rZ c0 c1 (by unfold tise;simp only[c9,aP,aO]) c14]
 constructor<;>intro c17
 constructor<;>intro c18
 intro e;(try simp only[e,am,ay,af,ah,-eq_self]);clear e
 ·rw[qq c0 c1 (by unfold tise;simp only[c8,aP,aO]) c17 c18]
 constructor<;>intro c19
 ·rw[fV c0 c1 (by unfold tise;simp only[c8,aP,aO]) c17 c18,lC c19]
 ·rw[fV c0 c1 (by unfold tise;simp only[c8,aP,aO]) c17 c18,gz c19]
 ·rw[rZ c0 c1 (by unfold tise;simp only[c8,aP,aO]) c17]
 constructor<;>intro c20
 constructor<;>intro c21
 intro e;(try simp only[e,am,ay,af,ah,-eq_self]);clear e
 ·rw[qq c0 c1 (by unfold tise;simp only[c7,aP,aO]) c20 c21]
 constructor<;>intro c22
 ·rw[fV c0 c1 (by unfold tise;simp only[c7,aP,aO]) c20 c21,lC c22]
 ·rw[fV c0 c1 (by unfold tise;simp only[c7,aP,aO]) c20 c21,gz c22]
 ·rw[rZ c0 c1 (by unfold tise;simp only[c7,aP,aO]) c20]
 constructor<;>intro c23
 constructor<;>intro c24
 intro e;(try simp only[e,am,ay,af,ah,-eq_self]);clear e
 ·rw[qq c0 c1 (by unfold tise;simp only[c6,aP,aO]) c23 c24]
 constructor<;>intro c25
 ·rw[fV c0 c1 (by unfold tise;simp only[c6,aP,aO]) c23 c24,lC c25]
 ·rw[fV c0 c1 (by unfold tise;simp only[c6,aP,aO]) c23 c24,gz c25]
 ·rw[rZ c0 c1 (by unfold tise;simp only[c6,aP,aO]) c23]
 constructor<;>intro c26
 constructor<;>intro c27
 intro e;(try simp only[e,am,ay,af,ah,-eq_self]);clear e
 ·rw[qq c0 c1 (by unfold tise;simp only[c5,aP,aO]) c26 c27]
 constructor<;>intro c28
 ·rw[fV c0 c1 (by unfold tise;simp only[c5,aP,aO]) c26 c27,lC c28]
 ·rw[fV c0 c1 (by unfold tise;simp only[c5,aP,aO]) c26 c27,gz c28]
 ·rw[rZ c0 c1 (by unfold tise;simp only[c5,aP,aO]) c26]
 constructor<;>intro c29
 constructor<;>intro c30
 intro e;(try simp only[e,am,ay,af,ah,-eq_self]);clear e
 ·rw[qq c0 c1 (by unfold tise;simp only[c4,aP,aO]) c29 c30]
 constructor<;>intro c31
 ·rw[fV c0 c1 (by unfold tise;simp only[c4,aP,aO]) c29 c30,lC c31]
 ·rw[fV c0 c1 (by unfold tise;simp only[c4,aP,aO]) c29 c30,gz c31]
 ·rw[rZ c0 c1 (by unfold tise;simp only[c4,aP,aO]) c29]
 constructor<;>intro c32
 constructor<;>intro c33
 intro e;(try simp only[e,am,ay,af,ah,-eq_self]);clear e
 ·rw[qq c0 c1 (by unfold tise;simp only[c3,aP,aO]) c32 c33]
 constructor<;>intro c34
 ·rw[fV c0 c1 (by unfold tise;simp only[c3,aP,aO]) c32 c33,lC c34]
 ·rw[fV c0 c1 (by unfold tise;simp only[c3,aP,aO]) c32 c33,gz c34]
 ·rw[rZ c0 c1 (by unfold tise;simp only[c3,aP,aO]) c32]
 constructor<;>intro c35
 constructor<;>intro c36
 intro e;(try simp only[e,am,ay,af,ah,-eq_self]);clear e
 ·rw[qq c0 c1 (by unfold tise;simp only[c2,aP,aO]) c35 c36]
 constructor<;>intro c37
 ·rw[fV c0 c1 (by unfold tise;simp only[c2,aP,aO]) c35 c36,lC c37]
 ·rw[fV c0 c1 (by unfold tise;simp only[c2,aP,aO]) c35 c36,gz c37]
 ·rw[rZ c0 c1 (by unfold tise;simp only[c2,aP,aO]) c35]
theorem al7 {sp:Spec} {key:Nat} (hF:sp.F key=kT) (hP:sp.pre key=fun _=>True:=by rfl):SmOk Tryz.prog sp (tK key):=
 aq (s:=tK key) hF hP xK kq (smc (gf rfl) (smc (atX rfl) sm0)) Tryz.func75 fn0 alD (.inl rfl) (bi fun q0 gq0=>bi fun q1 gq1=>fun hp U g=>ak3 q0 gq0 q1 gq1 U g)
def ahu (key:Nat):Sm:=⟨31,key,[.agg kSta,.agg kSta],[.one .bool],false⟩
def anB (a:Sta) (b:Sta):List Dt:=[.z (b2i (sin a b))]
def mT:List Dt->List Dt:=bL fun a=>bL fun b=>fun _=>anB a b
def sT_tin:Tr:=
(.call 0 [.bool] (.vs 0 171 .nil) 342
(.br (.bw 342)
(.call 0 [.bool] (.vs 171 171 .nil) 343
(.br (.bw 343)
(.call 1 [.bool] (.vs 0 9 (.vs 171 9 .nil)) 344
(.br (.bw 344)
(.call 1 [.bool] (.vs 9 9 (.vs 180 9 .nil)) 345
(.br (.bw 345)
(.call 1 [.bool] (.vs 18 9 (.vs 189 9 .nil)) 346
(.br (.bw 346)
(.call 1 [.bool] (.vs 27 9 (.vs 198 9 .nil)) 347
(.br (.bw 347)
(.call 1 [.bool] (.vs 36 9 (.vs 207 9 .nil)) 348
(.br (.bw 348)
(.call 1 [.bool] (.vs 45 9 (.vs 216 9 .nil)) 349
(.br (.bw 349)
(.call 1 [.bool] (.vs 54 9 (.vs 225 9 .nil)) 350
(.br (.bw 350)
(.call 1 [.bool] (.vs 63 9 (.vs 234 9 .nil)) 351
(.br (.bw 351)
(.call 1 [.bool] (.vs 72 9 (.vs 243 9 .nil)) 352
(.br (.bw 352)
(.call 1 [.bool] (.vs 81 9 (.vs 252 9 .nil)) 353
(.br (.bw 353)
(.call 1 [.bool] (.vs 90 9 (.vs 261 9 .nil)) 354
(.br (.bw 354)
(.call 1 [.bool] (.vs 99 9 (.vs 270 9 .nil)) 355
(.br (.bw 355)
(.call 1 [.bool] (.vs 108 9 (.vs 279 9 .nil)) 356
(.br (.bw 356)
(.call 1 [.bool] (.vs 117 9 (.vs 288 9 .nil)) 357
(.br (.bw 357)
(.call 1 [.bool] (.vs 126 9 (.vs 297 9 .nil)) 358
(.br (.bw 358)
(.call 1 [.bool] (.vs 135 9 (.vs 306 9 .nil)) 359
(.br (.bw 359)
(.call 1 [.bool] (.vs 144 9 (.vs 315 9 .nil)) 360
(.br (.bw 360)
(.call 1 [.bool] (.vs 153 9 (.vs 324 9 .nil)) 361
(.br (.bw 361)
(.call 1 [.bool] (.vs 162 9 (.vs 333 9 .nil)) 362
(.br (.bw 362)
(.leaf (.cb (.tt true) .nil))
(.leaf (.cb (.tt false) .nil))))
(.leaf (.cb (.tt false) .nil))))
(.leaf (.cb (.tt false) .nil))))
(.leaf (.cb (.tt false) .nil))))
(.leaf (.cb (.tt false) .nil))))
(.leaf (.cb (.tt false) .nil))))
(.leaf (.cb (.tt false) .nil))))
(.leaf (.cb (.tt false) .nil))))
(.leaf (.cb (.tt false) .nil))))
(.leaf (.cb (.tt false) .nil))))
(.leaf (.cb (.tt false) .nil))))
(.leaf (.cb (.tt false) .nil))))
(.leaf (.cb (.tt false) .nil))))
(.leaf (.cb (.tt false) .nil))))
(.leaf (.cb (.tt false) .nil))))
(.leaf (.cb (.tt false) .nil))))
(.leaf (.cb (.tt false) .nil))))
(.leaf (.cb (.tt false) .nil))))
(.leaf (.cb (.tt false) .nil))))
(.leaf (.cb (.tt false) .nil))))
(.leaf (.cb (.tt false) .nil))))
def anJ:Spec:={F:=fun k=>match k with | 0=>bY | 1=>kT | _=>fun _=>[],pre:=fun _ _=>True}
theorem atB:ap tys_VzI [hG 0,tK 1] [(73,Tryz.f73,[],[]),(74,Tryz.f74,[],[])] [] [] 400 Tryz.f31 [.agg kSta,.agg kSta] [.one .bool] false (bG (bG ([]))) sT_tin:=⟨by kernel_rfl,by kernel_rfl,by kernel_rfl⟩
theorem atc (a:Sta) (ha:Sta.ok a) (b:Sta) (hb:Sta.ok b) (U:Env) (g:varsD U 0 (bG (bG ([])))=(av a (av b ([])))):sT_tin.asks anJ (fun U e=>e.D U=mT (av a (av b ([])))) U fun _ _=>False:=by
 simp only[mT,bp,fx,rdZ,rdB]
 simp only[av,d_Ty,bG,v_Ty,varsD,varD,thm5,gS0,Nat.reduceAdd,and_true] at g
 simp(maxSteps:=10000000) only[sT_tin,anJ,av,d_Ty,bL,cY,bY,kT,me,sN,mT,anB,simQ,ai,S1,Nat.reduceSub,Nat.reduceAdd,-eq_self,am,ay,af,ah,g]
 intro e;(try simp only[e,am,ay,af,ah,-eq_self]);clear e
 constructor<;>intro c0
 intro e;(try simp only[e,am,ay,af,ah,-eq_self]);clear e
 constructor<;>intro c1
 intro e;(try simp only[e,am,ay,af,ah,-eq_self]);clear e
 constructor<;>intro c2
 intro e;(try simp only[e,am,ay,af,ah,-eq_self]);clear e
 constructor<;>intro c3
 intro e;(try simp only[e,am,ay,af,ah,-eq_self]);clear e
 constructor<;>intro c4
 intro e;(try simp only[e,am,ay,af,ah,-eq_self]);clear e
 constructor<;>intro c5
 intro e;(try simp only[e,am,ay,af,ah,-eq_self]);clear e
 constructor<;>intro c6
 intro e;(try simp only[e,am,ay,af,ah,-eq_self]);clear e
 constructor<;>intro c7
 intro e;(try simp only[e,am,ay,af,ah,-eq_self]);clear e
 constructor<;>intro c8
 intro e;(try simp only[e,am,ay,af,ah,-eq_self]);clear e
 constructor<;>intro c9
 intro e;(try simp only[e,am,ay,af,ah,-eq_self]);clear e
 constructor<;>intro c10
 intro e;(try simp only[e,am,ay,af,ah,-eq_self]);clear e
 constructor<;>intro c11
 intro e;(try simp only[e,am,ay,af,ah,-eq_self]);clear e
 constructor<;>intro c12
 intro e;(try simp only[e,am,ay,af,ah,-eq_self]);clear e
 constructor<;>intro c13
 intro e;(try simp only[e,am,ay,af,ah,-eq_self]);clear e
 constructor<;>intro c14
 intro e;(try simp only[e,am,ay,af,ah,-eq_self]);clear e
 constructor<;>intro c15
 intro e;(try simp only[e,am,ay,af,ah,-eq_self]);clear e
 constructor<;>intro c16
 intro e;(try simp only[e,am,ay,af,ah,-eq_self]);clear e
 constructor<;>intro c17
 intro e;(try simp only[e,am,ay,af,ah,-eq_self]);clear e
 constructor<;>intro c18
 intro e;(try simp only[e,am,ay,af,ah,-eq_self]);clear e
 constructor<;>intro c19
 intro e;(try simp only[e,am,ay,af,ah,-eq_self]);clear e
 constructor<;>intro c20
 ·simp only[sin,c0,c1,c2,c3,c4,c5,c6,c7,c8,c9,c10,c11,c12,c13,c14,c15,c16,c17,c18,c19,c20,Bool.and_self]
 ·simp only[sin,c20,aP,aO]
 ·simp only[sin,c19,aP,aO]
 ·simp only[sin,c18,aP,aO]
 ·simp only[sin,c17,aP,aO]
 ·simp only[sin,c16,aP,aO]
 ·simp only[sin,c15,aP,aO]
 ·simp only[sin,c14,aP,aO]
 ·simp only[sin,c13,aP,aO]
 ·simp only[sin,c12,aP,aO]
 ·simp only[sin,c11,aP,aO]
 ·simp only[sin,c10,aP,aO]
 ·simp only[sin,c9,aP,aO]
 ·simp only[sin,c8,aP,aO]
 ·simp only[sin,c7,aP,aO]
 ·simp only[sin,c6,aP,aO]
 ·simp only[sin,c5,aP,aO]
 ·simp only[sin,c4,aP,aO]
 ·simp only[sin,c3,aP,aO]
 ·simp only[sin,c2,aP,aO]
 ·simp only[sin,c1,aP,aO]
 ·simp only[sin,c0,aP,aO]
theorem at3 {sp:Spec} {key:Nat} (hF:sp.F key=mT) (hP:sp.pre key=fun _=>True:=by rfl):SmOk Tryz.prog sp (ahu key):=
 aq (s:=ahu key) hF hP xK kq (smc (mj rfl) (smc (al7 rfl) sm0)) Tryz.func31 (fnc Tryz.func73 (fnc Tryz.func74 fn0)) atB (.inl rfl) (cS fun q0 gq0=>cS fun q1 gq1=>fun hp U g=>atc q0 gq0 q1 gq1 U g)
open Go
theorem asm:(vrun ⟨0,[[0,11,64,0,0,0,0,0,0],[6,0,0,0,0,0,0,0,0]]⟩).2.2.2=0:=by kernel_rfl
theorem amQ:(vrun ⟨0,[[6,0,0,0,0,0,0,0,0]]⟩).2.2.2=110:=by kernel_rfl
theorem acA:(vrun ⟨4,[[1,0,0,8,0,0,1,0,0],[6,0,0,0,0,0,0,0,0]]⟩).2.2=(0,111):=by kernel_rfl
def tys_VzN:List (Nat×TI):=[(2,tiq2),
 (3,tiq3),
 (4,tiq4),
 (22,ac3),
 (24,ac2),
 (27,ac1),
 (30,apF),
 (31,apE),
 (33,apD),
 (37,gP),
 (39,yG),
 (42,fF),
 (44,gO),
 (46,kt),
 (48,dy),
 (50,qr),
 (51,si),
 (52,sf),
 (54,ac0)]
theorem ae8:(tys_VzN.all fun p=>ckTI Tryz.prog p.1 p.2)=true:=by kernel_rfl
theorem vx:(tys_VzN.all fun p=>!p.2.eqok||((Nat.beq p.1 39&&aN p.2.zero nO)||(Nat.beq p.1 48&&aN p.2.zero z_Sc)||(Nat.beq p.1 50&&aN p.2.zero z_Ty)))=true:=by kernel_rfl
theorem aeM:(tys_VzN.all fun p=>!p.2.keyok)=true:=by kernel_rfl
theorem vm:∀t i,(t,i)∈tys_VzN->TIok Tryz.prog t i:=by
 intro t i h
 refine bB (cz (f:=ckTI Tryz.prog) ae8 h) (fun he=> ?_) (fun he=> ?_) (fun he=> ?_)
 ·have h1:=thm7.1 vx (t,i) h
  simp only[he,Bool.not_true,Bool.false_or,bH,thm0] at h1
  rcases h1 with(h1 | h1) | h1
  ·have hs:=h1.2
   obtain rfl:=thm1 h1.1
   exact fun vs us hv hu=>pY vs us (an hs hv) (an hs hu)
  ·have hs:=h1.2
   obtain rfl:=thm1 h1.1
   exact fun vs us hv hu=>qy vs us (an hs hv) (an hs hu)
  ·have hs:=h1.2
   obtain rfl:=thm1 h1.1
   exact fun vs us hv hu=>qx vs us (an hs hv) (an hs hu)
 ·have h1:=thm7.1 vx (t,i) h
  simp only[he,Bool.not_true,Bool.false_or,bH,thm0] at h1
  rcases h1 with(h1 | h1) | h1
  ·have hs:=h1.2
   obtain rfl:=thm1 h1.1
   exact jY
  ·have hs:=h1.2
   obtain rfl:=thm1 h1.1
   exact jv
  ·have hs:=h1.2
   obtain rfl:=thm1 h1.1
   exact ju
 ·have h1:=thm7.1 aeM (t,i) h
  simp[he] at h1
def zk (key:Nat):Sm:=⟨10,key,[],[.one .bool],false⟩
def zH:List Dt->List Dt
 | []=>[.z (b2i true)]
 | _=>[]
def sT_vwak:Tr:=
(.call 0 ([.sl [none] 4,.sl (kN 171 221122110221122110221122110221122110221122110221122110221122110221122110221122110221122110221122110221122110221122110221122110221122110221122110221122110221122110221122110) 54]++[.int .i64]++[.int .i64]) (.cons (.lit 0) (.cL (.lcat (.lq .ln (.zs [0,11,64,0] (.cb (.tt false) (.zs [0,0,0,0] .nil)))) (.lq .ln (.zs [6,0,0,0] (.cb (.tt false) (.zs [0,0,0,0] .nil))))) .nil)) 0
(.call 0 ([.sl [none] 4,.sl (kN 171 221122110221122110221122110221122110221122110221122110221122110221122110221122110221122110221122110221122110221122110221122110221122110221122110221122110221122110221122110) 54]++[.int .i64]++[.int .i64]) (.cons (.lit 0) (.cL (.lq .ln (.zs [6,0,0,0] (.cb (.tt false) (.zs [0,0,0,0] .nil)))) .nil)) 4
(.call 0 ([.sl [none] 4,.sl (kN 171 221122110221122110221122110221122110221122110221122110221122110221122110221122110221122110221122110221122110221122110221122110221122110221122110221122110221122110221122110) 54]++[.int .i64]++[.int .i64]) (.cons (.lit 4) (.cL (.lcat (.lq .ln (.zs [1,0,0,8] (.cb (.tt false) (.zs [0,1,0,0] .nil)))) (.lq .ln (.zs [6,0,0,0] (.cb (.tt false) (.zs [0,0,0,0] .nil))))) .nil)) 8
(.br (.eq (.var 3) (.lit 0))
(.br (.eq (.var 7) (.lit 110))
(.br (.eq (.var 10) (.lit 0))
(.leaf (.cb (.eq (.var 11) (.lit 111)) .nil))
(.leaf (.cb (.tt false) .nil)))
(.leaf (.cb (.tt false) .nil)))
(.leaf (.cb (.tt false) .nil))))))
def arg:Spec:={F:=fun k=>match k with | 0=>ug | _=>fun _=>[],pre:=fun k=>match k with | 0=>oC | _=>fun _=>True,hw:=sHw,hx:=sHx,hi:=sHi}
theorem aqC:ap tys_VzN [tA 0] [(34,Tryz.f34,[],[])] [] [] 200 Tryz.f10 [] [.one .bool] false [] sT_vwak:=⟨by kernel_rfl,by kernel_rfl,by kernel_rfl⟩
theorem apU (U:Env) (g:varsD U 0 []=[]):sT_vwak.asks arg (fun U e=>e.D U=zH []) U fun _ _=>False:=by
 unfold sT_vwak
 refine ar (xs:=[.z 0,.l [[0,11,64,0,0,0,0,0,0],[6,0,0,0,0,0,0,0,0]]]) rfl (Nat.le_of_ble_eq_true (by kernel_rfl)) (fun e=> ?_)
 have a1:U.i 3=0:=e.2.2.2.1.trans asm
 clear e
 refine ar (xs:=[.z 0,.l [[6,0,0,0,0,0,0,0,0]]]) rfl (Nat.le_of_ble_eq_true (by kernel_rfl)) (fun e=> ?_)
 have a2:U.i 7=110:=e.2.2.2.1.trans amQ
 clear e
 refine ar (xs:=[.z 4,.l [[1,0,0,8,0,0,1,0,0],[6,0,0,0,0,0,0,0,0]]]) rfl (Nat.le_of_ble_eq_true (by kernel_rfl)) (fun e=> ?_)
 have a3:U.i 10=0:=e.2.2.1.trans (congrArg Prod.fst acA)
 have a4:U.i 11=111:=e.2.2.2.1.trans (congrArg Prod.snd acA)
 clear e
 refine⟨fun _=>⟨fun _=>⟨fun _=> ?_,fun c=> ?_⟩,fun c=> ?_⟩,fun c=> ?_⟩
 ·show[Dt.z (b2i (U.i 11==111))]=[.z (b2i true)]
  rw[a4];rfl
 ·rw[show(E.eq (.var 10) (.lit 0)).B U=(U.i 10==0) from rfl,a3] at c
  cases c
 ·rw[show(E.eq (.var 7) (.lit 110)).B U=(U.i 7==110) from rfl,a2] at c
  cases c
 ·rw[show(E.eq (.var 3) (.lit 0)).B U=(U.i 3==0) from rfl,a1] at c
  cases c
theorem arj {sp:Spec} {key:Nat} (hF:sp.F key=zH) (hP:sp.pre key=fun _=>True:=by rfl) (hH:∀w,sp.hw w->sHw w:=by exact fun _ h=>h):SmOk Tryz.prog sp (zk key):=
 aq (s:=zk key) (hW:=hH) hF hP xK vm (smc (ahE rfl rfl) sm0) Tryz.func10 (fnc Tryz.func34 fn0) aqC (.inl rfl) (fun hp U g=>apU U g)
def oM (key:Nat):Sm:=⟨9,key,[.agg lG],[.one .bool],false⟩
def wC (pr:Prog):List Dt:=[.z (b2i (decide ((100:Int)<(pr.l.length:Int))))]
def kY:List Dt->List Dt
 | [.z x0,.l x1]=>wC ⟨x0,x1⟩
 | _=>[]
def sT_lgreat:Tr:=
(.leaf (.cb (.lt (.lit 100) (.len (.lw 1))) .nil))
def wO:Spec:={F:=fun k=>match k with | _=>fun _=>[],pre:=fun _ _=>True}
theorem agH:ap tys_VzN [] [] [] [] 200 Tryz.f9 [.agg lG] [.one .bool] false [.int .i64,.list (kN 9 220090000)] sT_lgreat:=⟨by kernel_rfl,by kernel_rfl,by kernel_rfl⟩
def hC:List Dt->Prop
 | [.z x0,.l x1]=>let f (pr:Prog):Prop:=pr.l.length<=maxLen;f ⟨x0,x1⟩
 | _=>False
theorem aga (pr:Prog) (hpr:Prog.ok pr) (hp:hC [.z pr.ctx,.l pr.l]) (U:Env) (g:varsD U 0 [.int .i64,.list (kN 9 220090000)]=[.z pr.ctx,.l pr.l]):sT_lgreat.asks wO (fun U e=>e.D U=kY [.z pr.ctx,.l pr.l]) U fun _ _=>False:=by
 simp only[hC,b2i_one,am,ay,af,ah] at hp
 simp only[varsD,varD,thm5,gS0,Nat.reduceAdd,and_true] at g
 simp only[sT_lgreat,wO,kY,wC,simQ,ai,S1,Nat.reduceSub,Nat.reduceAdd,-eq_self,am,ay,af,ah,g]
 ·try rfl
theorem ahW {sp:Spec} {key:Nat} (hF:sp.F key=kY) (hP:sp.pre key=hC):SmOk Tryz.prog sp (oM key):=
 aq (s:=oM key) hF hP xK vm (sm0) Tryz.func9 fn0 agH (.inr (.inl ⟨(fun xs h L hL=>by unfold hC at h;split at h<;>first | exact h.elim | (simp at hL;subst hL;exact h)),rfl⟩)) (fun x0 gx0 x1 gx1 hp U g=>aga ⟨x0,x1⟩ ⟨gx0,gx1⟩ hp U g)
theorem adb {P:Program} {t e:TypeId} {ks:List CE} (r:Rw P e ks) (hpos:0<ks.length) (ht:P.underlying t=some (.slice e)) {H:Type} {enc:TypeId×Value->H} {W:World} {hd:Bool} {v:Value} {fuel:Nat} {x:DataW H×List MemPlace}
  (hf:DataW.trod enc P W 0 (fun _=>true) hd fuel t [v]=some x):∃L s,v=s.v/\s.n=L.length/\RdRow W ks.length s (flat ks L)/\RowsIn ks L/\∀k,s.blk false=some k->k<W.heap.size:=by
 obtain⟨a0,len0,cap0,hcs⟩:=Go.Joins.slice_form ht hf
 obtain rfl:v=.slice a0 len0 cap0:=by simpa using hcs
 rcases Go.Deep.open_slice ht hf with⟨h1,_⟩ | ⟨a,len,cap,m,n,D,Pl,h1,_,hl,hm,hmm,_,hel⟩
 ·simp only[thm5,Value.slice.injEq,and_true] at h1
  obtain⟨rfl,rfl,rfl⟩:=h1
  exact⟨[],⟨none,0,0,[]⟩,rfl,rfl,⟨by simp[flat],Nat.le_refl _,by simp[maxLen],fun _=>⟨rfl,rfl⟩,fun a ha=>(by cases ha)⟩,⟨fun r hr=>(by cases hr),by simp⟩,fun k hk=>by have:=aL hk;cases this⟩
 ·simp only[thm5,Value.slice.injEq,and_true] at h1
  obtain⟨rfl,rfl,rfl⟩:=h1
  have hmc:m=cap0:=by rw[hmm];rfl
  subst hmc
  rw[r.cells] at hel
  have key:∀i,i<len0->∃x,W.cells? 0 (a.add (i*ks.length)) ks.length=some (rowV ks x)/\aG ks x=true:=fun i hi=>by
   obtain⟨cs',h1,h2⟩:=hel i (by omega)
   obtain⟨x,hx,hx'⟩:=r.opn h2
   exact⟨x,by rw[<-hx];exact h1,hx'⟩
  obtain⟨L,hL,hq⟩:=amD key
  have hrow:∀x∈L,aG ks x=true:=fun x hx=>by
   obtain⟨i,hi,he⟩:=List.getElem_of_mem hx
   exact(hq i x (by rw[thm6 hi,he])).2
  refine⟨L,⟨some a,len0,m,[]⟩,rfl,hL.symm,⟨?_,hl,hm,fun ha=>(by cases ha),fun a' ha' i u hu=> ?_⟩,⟨hrow,by rw[hL];exact Nat.le_trans hl hm⟩,fun k hk=> ?_⟩
  ·rw[cr hrow,hL]
  ·cases ha'
   have hlt:i<(flat ks L).length:=(cf.1 hu).1
   rw[cr hrow] at hlt
   have hi:i / ks.length<L.length:=Nat.div_lt_of_lt_mul (by rw[Nat.mul_comm];exact hlt)
   have hc:i % ks.length<ks.length:=Nat.mod_lt _ hpos
   have e1:i=i / ks.length*ks.length+i % ks.length:=by rw[Nat.mul_comm];exact(Nat.div_add_mod _ _).symm
   rw[e1,nI (thm6 hc) hrow hi] at hu
   obtain⟨q1,q2⟩:=hq (i / ks.length) L[i / ks.length] (thm6 hi)
   obtain⟨_,hlen,hat⟩:=World.cells?_some q1
   have h3:=hat (i % ks.length) hc
   rw[uj q2 (thm6 hc)] at h3
   have hg:L.getD (i / ks.length) []=L[i / ks.length]:=by rw[cW,thm6 hi];rfl
   rw[hg] at hu
   rw[e1,<-ct,h3]
   exact hu
  ·have hc:m≠0:=fun hc=>by
    unfold SV.blk at hk
    simp[hc] at hk
   obtain⟨cs',h1,h2⟩:=hel 0 (by omega)
   have h4:=am1 h1 hpos
   have h5:=aL hk
   simp only[SV.v,Value.ownBlock,bk] at h5
   rw[<-h5]
   have:(a.add (0*ks.length)).block=a.block:=by unfold Addr.add;split<;>rfl
   rw[<-this]
   exact h4.1
theorem rwI8:Rw Tryz.prog 37 [some .i8]:=Rw.int .i8 Tryz.underlying37 (by kernel_rfl)
theorem rwI64:Rw Tryz.prog 3 [some .i64]:=Rw.int .i64 Tryz.underlying3 (by kernel_rfl)
theorem rwBo:Rw Tryz.prog 4 [none]:=Rw.bool Tryz.underlying4 (by kernel_rfl)
theorem avN:Rw Tryz.prog 39 [some .i8,some .i8,some .i8,some .i8,none,some .i8,some .i8,some .i64,some .i64]:=by
 refine Rw.struct (ks:=[some .i8,some .i8,some .i8,some .i8,none,some .i8,some .i8,some .i64,some .i64]) ?_ Tryz.underlying39 (by kernel_rfl)
 exact(RwSeq.cons (ks:=[some .i8]) rwI8 (by rfl) (RwSeq.cons (ks:=[some .i8]) rwI8 (by rfl) (RwSeq.cons (ks:=[some .i8]) rwI8 (by rfl) (RwSeq.cons (ks:=[some .i8]) rwI8 (by rfl) (RwSeq.cons (ks:=[none]) rwBo (by rfl) (RwSeq.cons (ks:=[some .i8]) rwI8 (by rfl) (RwSeq.cons (ks:=[some .i8]) rwI8 (by rfl) (RwSeq.cons (ks:=[some .i64]) rwI64 (by rfl) (RwSeq.cons (ks:=[some .i64]) rwI64 (by rfl) (RwSeq.nil _ _))))))))))
theorem Prog.of_arg {H:Type} {enc:TypeId×Value->H} {W:World} {hd:Bool} {v:Value} {d:DataW H} {p:List MemPlace} {rc:Reach} {b0:Nat}
  (hv:Value.okWide Tryz.prog W rc b0 24 v) (h:DataW.Trod enc Tryz.prog W 0 (fun _=>true) hd 24 v d p):∃(c:Int) (L:List (List Int)) (s:_),v=.agg #[.int .i64 c,SV.v s]/\inK .i64 c=true/\s.n=L.length/\RdRow W 9 s (flat [some .i8,some .i8,some .i8,some .i8,none,some .i8,some .i8,some .i64,some .i64] L)/\RowsIn [some .i8,some .i8,some .i8,some .i8,none,some .i8,some .i8,some .i64,some .i64] L/\∀k,s.blk false=some k->k<W.heap.size:=by
 obtain⟨v0,v1,y0,y1,n,rfl,_,_,h0,h1⟩:=Go.Joins.open_agg2 Tryz.underlying24 (by kernel_rfl) (by kernel_rfl) hv h
 obtain⟨q,e0,hq⟩:=rwI64.opn h0
 obtain⟨L,s,rfl,h2,h3,h4,h5⟩:=adb avN (by decide) Tryz.underlying22 h1
 obtain⟨c,q,rfl,hc,hq⟩:=adm hq
 obtain rfl:=ah7 hq
 simp only[rowV,thm5,and_true] at e0
 exact⟨c,L,s,by rw[e0];rfl,hc,h2,h3,h4,h5⟩
def tys_VzL:List (Nat×TI):=[(2,tiq2),
 (3,tiq3),
 (4,tiq4),
 (22,ac3),
 (24,ac2),
 (27,ac1),
 (30,apF),
 (31,apE),
 (33,apD),
 (37,gP),
 (39,yG),
 (42,fF),
 (44,gO),
 (46,kt),
 (48,dy),
 (50,qr),
 (51,si),
 (52,sf),
 (54,se),
 (55,asZ),
 (66,apC)]
theorem ae9:(tys_VzL.all fun p=>ckTI Tryz.prog p.1 p.2)=true:=by kernel_rfl
theorem vy:(tys_VzL.all fun p=>!p.2.eqok||((Nat.beq p.1 39&&aN p.2.zero nO)||(Nat.beq p.1 48&&aN p.2.zero z_Sc)||(Nat.beq p.1 50&&aN p.2.zero z_Ty)||(Nat.beq p.1 54&&aN p.2.zero yz)))=true:=by kernel_rfl
theorem aeN:(tys_VzL.all fun p=>!p.2.keyok)=true:=by kernel_rfl
theorem aeE:∀t i,(t,i)∈tys_VzL->TIok Tryz.prog t i:=by
 intro t i h
 refine bB (cz (f:=ckTI Tryz.prog) ae9 h) (fun he=> ?_) (fun he=> ?_) (fun he=> ?_)
 ·have h1:=thm7.1 vy (t,i) h
  simp only[he,Bool.not_true,Bool.false_or,bH,thm0] at h1
  rcases h1 with((h1 | h1) | h1) | h1
  ·have hs:=h1.2
   obtain rfl:=thm1 h1.1
   exact fun vs us hv hu=>pY vs us (an hs hv) (an hs hu)
  ·have hs:=h1.2
   obtain rfl:=thm1 h1.1
   exact fun vs us hv hu=>qy vs us (an hs hv) (an hs hu)
  ·have hs:=h1.2
   obtain rfl:=thm1 h1.1
   exact fun vs us hv hu=>qx vs us (an hs hv) (an hs hu)
  ·have hs:=h1.2
   obtain rfl:=thm1 h1.1
   exact fun vs us hv hu=>ajm vs us (an hs hv) (an hs hu)
 ·have h1:=thm7.1 vy (t,i) h
  simp only[he,Bool.not_true,Bool.false_or,bH,thm0] at h1
  rcases h1 with((h1 | h1) | h1) | h1
  ·have hs:=h1.2
   obtain rfl:=thm1 h1.1
   exact jY
  ·have hs:=h1.2
   obtain rfl:=thm1 h1.1
   exact jv
  ·have hs:=h1.2
   obtain rfl:=thm1 h1.1
   exact ju
  ·have hs:=h1.2
   obtain rfl:=thm1 h1.1
   exact aaj
 ·have h1:=thm7.1 aeN (t,i) h
  simp[he] at h1
def alp (p:Prog):List Dt:=[.z (b2i true)]
def ui:List Dt->List Dt
 | [.z x0,.l x1]=>alp ⟨x0,x1⟩
 | _=>[]
def sT_lvmay:Tr:=
(.call 0 [.bool] (.cons (.var 0) (.cL (.lw 1) .nil)) 2
(.br (.bw 2)
(.call 1 [.bool] .nil 3
(.leaf (.cb (.bw 3) .nil)))
(.call 2 ([.sl [none] 4,.sl (kN 171 221122110221122110221122110221122110221122110221122110221122110221122110221122110221122110221122110221122110221122110221122110221122110221122110221122110221122110221122110) 54]++[.int .i64]++[.int .i64]) (.cons (.var 0) (.cL (.lw 1) .nil)) 3
(.br (.eq (.var 6) (.lit 0))
(.br (.lt (.lit 0) (.mn (.len (.lw 3)) (.len (.lw 4))))
(.br (.lt (.lit 0) (.len (.lw 3)))
(.br (.getb (.lw 3) (.lit 0) 0)
(.br (.lt (.lit 0) (.len (.lw 4)))
(.call 3 (kSta) .nil 7
(.call 4 [.bool] (.vs 7 171 (.gs (.lw 4) (.lit 0) 0 171 .nil)) 178
(.br (.bw 178)
(.br (.eq (.len (.lw 4)) (.len (.lw 1)))
(.br (.eq (.len (.lw 3)) (.len (.lw 1)))
(.loop 0 179 [.int .i64] (.cons (.lit 0) .nil)
(.br (.lt (.var 179) (.len (.lw 1)))
(.br (.lt (.var 179) (.lit 0))
(.next 0 (.cons (.bin .add .i64 (.var 179) (.lit 1)) .nil))
(.br (.lt (.var 179) (.mn (.len (.lw 3)) (.len (.lw 4))))
(.br (.lt (.var 179) (.len (.lw 3)))
(.br (.getb (.lw 3) (.var 179) 0)
(.br (.lt (.var 179) (.len (.lw 4)))
(.call 5 [.sl (kN 172 2211221102211221102211221102211221102211221102211221102211221102211221102211221102211221102211221102211221102211221102211221102211221102211221102211221102211221102211221102) 66,.int .i64] (.cons (.var 0) (.cL (.lw 1) (.cons (.var 179) (.gs (.lw 4) (.var 179) 0 171 .nil)))) 180
(.br (.eq (.var 181) (.lit 0))
(.call 6 [.bool] (.gs (.lw 4) (.var 179) 0 171 .nil) 182
(.br (.bw 182)
(.loop 1 183 [.int .i64] (.cons (.lit 0) .nil)
(.br (.lt (.var 183) (.len (.lw 180)))
(.br (.lt (.var 183) (.lit 0))
.panic
(.br (.lt (.get (.lw 180) (.var 183) 0) (.lit 0))
(.leaf (.cb (.tt false) .nil))
(.br (.lt (.get (.lw 180) (.var 183) 0) (.mn (.len (.lw 3)) (.len (.lw 4))))
(.br (.lt (.get (.lw 180) (.var 183) 0) (.len (.lw 3)))
(.br (.getb (.lw 3) (.get (.lw 180) (.var 183) 0) 0)
(.br (.lt (.get (.lw 180) (.var 183) 0) (.len (.lw 4)))
(.next 1 (.cons (.bin .add .i64 (.var 183) (.lit 1)) .nil))
.panic)
(.leaf (.cb (.tt false) .nil)))
.panic)
(.leaf (.cb (.tt false) .nil)))))
(.next 0 (.cons (.bin .add .i64 (.var 179) (.lit 1)) .nil))))
(.leaf (.cb (.tt false) .nil))))
(.leaf (.cb (.tt false) .nil))))
.panic)
(.next 0 (.cons (.bin .add .i64 (.var 179) (.lit 1)) .nil)))
.panic)
(.next 0 (.cons (.bin .add .i64 (.var 179) (.lit 1)) .nil))))
(.call 1 [.bool] .nil 180
(.leaf (.cb (.bw 180) .nil)))))
(.leaf (.cb (.tt false) .nil)))
(.leaf (.cb (.tt false) .nil)))
(.leaf (.cb (.tt false) .nil)))))
.panic)
(.leaf (.cb (.tt false) .nil)))
.panic)
(.leaf (.cb (.tt false) .nil)))
(.br (.eq (.len (.lw 4)) (.lit 0))
(.br (.eq (.len (.lw 3)) (.lit 0))
(.call 1 [.bool] .nil 7
(.leaf (.cb (.bw 7) .nil)))
(.leaf (.cb (.tt false) .nil)))
(.leaf (.cb (.tt false) .nil)))))))
def sP_lvmay:Spec:={F:=fun k=>match k with | 0=>kY | 1=>zH | 2=>ug | 3=>io | 4=>mT | 5=>iU | 6=>bY | _=>fun _=>[],pre:=fun k=>match k with | 0=>hC | 2=>oC | 5=>nz | _=>fun _=>True,hw:=sHw,hx:=sHx,hi:=sHi}
theorem alL:ap tys_VzL [oM 0,zk 1,tA 2,kD 3,ahu 4,tv 5,hG 6] [(28,Tryz.f28,[(999999,[]),(999998,[])],[])] [(10,[.tmpI 75 .i64]++tps [(2,1),(8,5),(14,3),(76,41)]),(18,[.tmpI 102 .i64]++tps [(2,1),(14,3),(103,13)]),(999999,[])] [] 200 Tryz.f8 [.agg lG] [.one .bool] false [.int .i64,.list (kN 9 220090000)] sT_lvmay:=⟨by kernel_rfl,by kernel_rfl,by kernel_rfl⟩
theorem asH (U:Env) (l i t:E):(E.gs l i 0 171 t).D U=av (cy (l.R U) (i.I U)) (t.D U):=by kernel_rfl
theorem F_in (a b:Sta):mT (av a (av b []))=[.z (b2i (sin a b))]:=by
 unfold mT
 rw[bp,bp];rfl
theorem nQ {G:Env->E->Prop} {U:Env} {I:Nat->List Dt->Prop} {n:Nat} {k:Tr} (h:U.b n=true->k.asks sP_lvmay G U I):(Tr.call 1 [.bool] .nil n k).asks sP_lvmay G U I:=
 ar (xs:=[]) rfl trivial (fun e=>h (e.1.trans rfl))
theorem aiL {U:Env} {n:Nat} {c:Int} {L:List (List Int)} (h:U.b n=true):(E.cb (.bw n) .nil).D U=ui [.z c,.l L]:=by
 show[Dt.z (b2i (U.b n))]=[.z (b2i true)]
 rw[h]
theorem alb (p:Prog) (hp:Prog.ok p) (U:Env) (g:varsD U 0 [.int .i64,.list (kN 9 220090000)]=[.z p.ctx,.l p.l]):sT_lvmay.asks sP_lvmay (fun U e=>e.D U=ui [.z p.ctx,.l p.l]) U fun _ _=>False:=by
 have hl:p.l.length<=maxLen:=hp.2.len
 have g0:U.i 0=p.ctx/\U.l 1=p.l:=by
  simp only[varsD,varD,thm5,Dt.z.injEq,Dt.l.injEq,and_true,Nat.reduceAdd] at g
  exact g
 unfold sT_lvmay
 refine ar (xs:=[.z p.ctx,.l p.l]) (by simp only[E.D,E.I,E.R,g0.1,g0.2]) hl (fun _=>⟨fun _=> ?_,fun _=> ?_⟩)
 ·exact nQ (fun h=>aiL h)
 refine ar (xs:=[.z p.ctx,.l p.l]) (by simp only[E.D,E.I,E.R,g0.1,g0.2]) hl (fun e=> ?_)
 have e3:U.l 3=(vrun p).1:=e.1
 have e4:U.l 4=(vrun p).2.1:=e.2.1
 have e6:U.i 6=(vrun p).2.2.2:=e.2.2.2.1
 clear e
 refine⟨fun c=> ?_,fun c=> ?_⟩
 rotate_left
 ·have h:(vrun p).2.2.2≠0:=by
   simp only[E.B,E.I,e6] at c
   exact neI c
  obtain⟨h1,h2⟩:=apw h
  refine⟨fun _=>⟨fun _=>nQ (fun h=>aiL h),fun c=> ?_⟩,fun c=> ?_⟩
  ·simp only[E.B,E.I,E.R,e3,h1] at c
   cases c
  ·simp only[E.B,E.I,E.R,e4,h2] at c
   cases c
 have h:(vrun p).2.2.2=0:=by
  simp only[E.B,E.I,e6] at c
  exact eqI c
 obtain⟨n1,n2⟩:=akf h
 obtain⟨m0,m1,m2,m3⟩:=ake hl h
 refine⟨fun _=>⟨fun _=>⟨fun _=>⟨fun _=> ?_,fun c=> ?_⟩,fun c=> ?_⟩,fun c=> ?_⟩,fun c=> ?_⟩
 rotate_left
 ·simp only[E.B,E.I,E.R,e4,n2] at c
  have:=thm2 c
  omega
 ·simp only[E.B,E.I,E.R,e3] at c
  rw[show gt (vrun p).1 0 0=1 from m1] at c
  cases c
 ·simp only[E.B,E.I,E.R,e3,n1] at c
  have:=thm2 c
  omega
 ·simp only[E.B,E.I,E.R,e3,e4,n1,n2] at c
  have:=thm2 c
  omega
 refine ar (xs:=[]) rfl trivial (fun e=> ?_)
 have eF:staV U 7=gJ:=aot e
 clear e
 refine ar (xs:=av gJ (av (cy (vrun p).2.1 (0:Nat)) [])) (by
  rw[yr,asH,eF]
  show av gJ (av (cy (U.l 4) 0) [])=_
  rw[e4];rfl) trivial (fun e=> ?_)
 rw[show sP_lvmay.F 4=mT from rfl,F_in] at e
 have b178:U.b 178=true:=(e.1.trans (eQ _)).trans m2
 clear e
 refine⟨fun _=>⟨fun _=>⟨fun _=> ?_,fun c=> ?_⟩,fun c=> ?_⟩,fun c=> ?_⟩
 rotate_left
 ·simp only[E.B,E.I,E.R,e3,g0.2,n1] at c
  simp at c
 ·simp only[E.B,E.I,E.R,e4,g0.2,n2] at c
  simp at c
 ·rw[show(E.bw 178).B U=true from b178] at c
  cases c
 refine⟨fun ds=>∃n:Nat,ds=[.z (n:Int)]/\n<=p.l.length,fun ds=>p.l.length-(dI ds 0).toNat,⟨0,rfl,Nat.zero_le _⟩,?_⟩
 intro U1 ha1 _ hi1
 obtain⟨n,hds,hn⟩:=hi1
 rw[show varsD U1 179 [.int .i64]=[.z (U1.i 179)] from rfl] at hds ⊢
 simp only[thm5,Dt.z.injEq,and_true] at hds
 have c1:U1.i 0=p.ctx:=(ha1 0 (by decide)).1.symm.trans g0.1
 have l1:U1.l 1=p.l:=(ha1 1 (by decide)).2.2.symm.trans g0.2
 have l3:U1.l 3=(vrun p).1:=(ha1 3 (by decide)).2.2.symm.trans e3
 have l4:U1.l 4=(vrun p).2.1:=(ha1 4 (by decide)).2.2.symm.trans e4
 refine⟨fun c=> ?_,fun _=>nQ (fun h=>aiL h)⟩
 have hn2:n<p.l.length:=by
  simp only[E.B,E.I,E.R,hds,l1] at c
  have:=thm3 c
  omega
 have nx:∀U':Env,U'.i 179=(n:Int)->(∃m:Nat,(E.cons (.bin .add .i64 (.var 179) (.lit 1)) .nil).D U'=[.z (m:Int)]/\m<=p.l.length)/\p.l.length-(dI ((E.cons (.bin .add .i64 (.var 179) (.lit 1)) .nil).D U') 0).toNat<p.l.length-(dI [.z (U1.i 179)] 0).toNat:=fun U' hi=>by
  have e:(E.cons (.bin .add .i64 (.var 179) (.lit 1)) .nil).D U'=[.z ((n+1:Nat):Int)]:=by
   simp only[E.D,E.I,hi,addN hn2 hl]
  rw[e]
  refine⟨⟨n+1,rfl,hn2⟩,?_⟩
  show p.l.length-((n+1:Nat):Int).toNat<p.l.length-(U1.i 179).toNat
  rw[hds];omega
 refine⟨fun _=>au (nx U1 hds),fun _=>⟨fun _=>⟨fun _=>⟨fun c4=>⟨fun _=> ?_,fun c=> ?_⟩,fun _=>au (nx U1 hds)⟩,fun c=> ?_⟩,fun _=>au (nx U1 hds)⟩⟩
 rotate_left
 ·simp only[E.B,E.I,E.R,hds,l4,n2] at c
  have:=thm2 c
  omega
 ·simp only[E.B,E.I,E.R,hds,l3,n1] at c
  have:=thm2 c
  omega
 have hs:gt (vrun p).1 n 0=1:=by
  simp only[E.B,E.I,E.R,hds,l3] at c4
  exact eqI c4
 obtain⟨a1,a2,a3⟩:=m3 n hn2 hs
 refine ar (xs:=.z p.ctx::.l p.l::.z n::av (cy (vrun p).2.1 n) []) (by
  show Dt.z (U1.i 0)::.l (U1.l 1)::.z (U1.i 179)::(E.gs (.lw 4) (.var 179) 0 171 .nil).D U1=_
  rw[asH,show(E.lw 4).R U1=(vrun p).2.1 from l4,show(E.var 179).I U1=(n:Int) from hds,c1,l1,hds];rfl) ⟨hl,rfl⟩ (fun e=> ?_)
 rw[show sP_lvmay.F 5=iU from rfl,aoD p n (cy (vrun p).2.1 n)] at e
 have r1:U1.l 180=(bn p n (cy (vrun p).2.1 n)).1:=e.1
 have r2:U1.i 181=(bn p n (cy (vrun p).2.1 n)).2:=e.2.1
 clear e
 refine⟨fun _=> ?_,fun c=> ?_⟩
 rotate_left
 ·simp only[E.B,E.I,r2,a2] at c
  cases c
 refine ar (xs:=av (cy (vrun p).2.1 n) []) (by
  rw[asH,show(E.lw 4).R U1=(vrun p).2.1 from l4,show(E.var 179).I U1=(n:Int) from hds];rfl) trivial (fun e=> ?_)
 rw[show sP_lvmay.F 6=bY from rfl,avr] at e
 have b182:U1.b 182=true:=(e.1.trans (eQ _)).trans a1
 clear e
 refine⟨fun _=> ?_,fun c=>(by rw[show(E.bw 182).B U1=true from b182] at c;cases c)⟩
 refine⟨fun ds=>∃j:Nat,ds=[.z (j:Int)]/\j<=(bn p n (cy (vrun p).2.1 n)).1.length,fun ds=>(bn p n (cy (vrun p).2.1 n)).1.length-(dI ds 0).toNat,⟨0,rfl,Nat.zero_le _⟩,?_⟩
 intro U2 ha2 hz2 hi2
 obtain⟨j,hds2,hj⟩:=hi2
 rw[show varsD U2 183 [.int .i64]=[.z (U2.i 183)] from rfl] at hds2 ⊢
 simp only[thm5,Dt.z.injEq,and_true] at hds2
 have k3:U2.l 3=(vrun p).1:=(ha2 3 (by decide)).2.2.symm.trans l3
 have k4:U2.l 4=(vrun p).2.1:=(ha2 4 (by decide)).2.2.symm.trans l4
 have k180:U2.l 180=(bn p n (cy (vrun p).2.1 n)).1:=(ha2 180 (by decide)).2.2.symm.trans r1
 have i179:U2.i 179=(n:Int):=(ha2 179 (by decide)).1.symm.trans hds
 refine⟨fun c=> ?_,fun _=>xJ (by decide) (au (nx U2 i179))⟩
 have hj2:j<(bn p n (cy (vrun p).2.1 n)).1.length:=by
  simp only[E.B,E.I,E.R,hds2,k180] at c
  have:=thm3 c
  omega
 obtain⟨m,w1,w2,w3⟩:=a3 j hj2
 have gx:(E.get (.lw 180) (.var 183) 0).I U2=(m:Int):=by
  simp only[E.I,E.R,k180,hds2]
  exact w1
 refine⟨fun c=> ?_,fun _=>⟨fun c=> ?_,fun _=>⟨fun _=>⟨fun _=>⟨fun _=>⟨fun _=>au ?_,fun c=> ?_⟩,fun c=> ?_⟩,fun c=> ?_⟩,fun c=> ?_⟩⟩⟩
 ·simp only[E.B,E.I,hds2] at c
  have:=thm3 c
  omega
 ·have:decide ((E.get (.lw 180) (.var 183) 0).I U2<0)=true:=c
  rw[gx] at this
  have:=thm3 this
  omega
 ·have hm:j<maxLen:=by
   have:(bn p n (cy (vrun p).2.1 n)).1.length<=2:=aet _ _ _
   unfold maxLen;omega
  have e:(E.cons (.bin .add .i64 (.var 183) (.lit 1)) .nil).D U2=[.z ((j+1:Nat):Int)]:=by
   simp only[E.D,E.I,hds2,addN hm (Nat.le_refl _)]
  rw[e]
  refine⟨⟨j+1,rfl,hj2⟩,?_⟩
  show(bn p n (cy (vrun p).2.1 n)).1.length-((j+1:Nat):Int).toNat<(bn p n (cy (vrun p).2.1 n)).1.length-(U2.i 183).toNat
  rw[hds2];omega
 ·have:decide ((E.get (.lw 180) (.var 183) 0).I U2<((U2.l 4).length:Int))=false:=c
  rw[gx,k4,n2] at this
  have:=thm2 this
  omega
 ·have:(gt (U2.l 3) ((E.get (.lw 180) (.var 183) 0).I U2) 0==1)=false:=c
  rw[gx,k3,w3] at this
  cases this
 ·have:decide ((E.get (.lw 180) (.var 183) 0).I U2<((U2.l 3).length:Int))=false:=c
  rw[gx,k3,n1] at this
  have:=thm2 this
  omega
 ·have:decide ((E.get (.lw 180) (.var 183) 0).I U2<min ((U2.l 3).length:Int) ((U2.l 4).length:Int))=false:=c
  rw[gx,k3,k4,n1,n2] at this
  have:=thm2 this
  omega
theorem amk (xs:List Dt) (vals:List Value) (w:World) (hw:lZ w [.agg lG] xs vals) (hh:sHw w):Calls Tryz.prog 8 vals.toArray w fun e w'=>∃v,e=.returned v/\RetOk [.one .bool] false w w' (ui xs) v:=
 (xX xK aeE (smc (ahW rfl rfl) (smc (arj rfl) (smc (ahE rfl rfl) (smc (wW rfl) (smc (at3 rfl) (smc (al0 rfl rfl) (smc (mj rfl) sm0))))))) Tryz.func8 (fnc Tryz.func28 fn0) alL (pre:=fun _=>True) (fun x0 gx0 x1 gx1 hp U g=>alb ⟨x0,x1⟩ ⟨gx0,gx1⟩ U g) xs vals w hw trivial hh).2
theorem uE {H:Type} {enc:TypeId×Value->H} {W:World} {r:Reach} {b0:Nat} (v0:Value) (k0:Value.okWide Tryz.prog W r b0 24 v0) (d0:DataW H) (p0:List MemPlace) (h0:DataW.Trod enc Tryz.prog W 0 (fun _=>true) true 24 v0 d0 p0) (_:∀x∈p0,x.block<W.heap.size) (hh:sHw W):
  Calls Tryz.prog 8 #[v0] W fun e W'=>e=.returned (.bool true)/\Below W.heap.size W W':=by
 obtain⟨a0,q0,s0,rfl,w0,n0,m0,o0,l0⟩:=Prog.of_arg k0 h0
 refine(amk (.z a0::(.l q0::([]))) _ W ⟨_,_,_,rfl,⟨_,_,_,rfl,⟨_,rfl,rfl,w0⟩,⟨_,_,_,rfl,⟨_,_,rfl,rfl,n0,m0,o0,l0⟩,⟨rfl,rfl⟩⟩⟩,⟨rfl,rfl⟩⟩ hh).mono fun e W' ⟨v,he,hr⟩=> ?_
 have hv:v=.bool true:=RetOk.says hr
 rw[he,hv]
 exact⟨rfl,hr.ext⟩
end Go.Proofs.YtfkhblmeioiciaaGreatDoor
