import Derived.Test.YtfkhblmeioiciaaGreatDoorXbA
import Derived.Test.YtfkhblmeioiciaaGreatDoorProg
import Derived.Laws.Externs
set_option maxRecDepth 100000
set_option maxHeartbeats 8000000
set_option linter.defProp false
set_option linter.unusedVariables false
set_option linter.unusedSimpArgs false
namespace Go.Proofs.YtfkhblmeioiciaaGreatDoor
open Go.RowKit Go.ChangeShapes Go.WideShapes
theorem yo (r:Rg):(if bnok r=true then bnar r else ball)=bnar r:=by
 unfold bnar
 split<;>simp_all
theorem Rg.ext_iff {a b:Rg}:a=b↔a.ul=b.ul/\a.uh=b.uh/\a.sl=b.sl/\a.sh=b.sh:=by
 cases a;cases b;simp
theorem cy {x:Int} (h:inK .u64 x=true):0<=x/\x<=18446744073709551615:=by
 rw[bp] at h;simpa[IntKind.min,IntKind.max,IntKind.signed,IntKind.bits] using h
theorem fF {x:Int} (h:inK .i64 x=true) : -9223372036854775808<=x/\x<=9223372036854775807:=by
 rw[bp] at h;simpa[IntKind.min,IntKind.max,IntKind.signed,IntKind.bits] using h
theorem Rg.wf_of {a:Rg} (h:a.ok):a.wf:=⟨cy h.1,cy h.2.1,fF h.2.2.1,fF h.2.2.2⟩
theorem api {x:Int} (h:0<=x/\x<=18446744073709551615):opI .shr .u64 x 63=if hib x=true then 1 else 0:=by
 show x.fdiv (2 ^ 63)=_
 rw[Int.fdiv_eq_ediv_of_nonneg _ (by omega)]
 unfold hib
 split
 ·rename_i hh;have:=thm3 hh;omega
 ·rename_i hh;have:¬9223372036854775808<=x:=fun e=>hh (fQ e);omega
theorem aqL {r:Rg} (w:r.wf):(opI .shr .u64 r.ul 63==opI .shr .u64 r.uh 63)=decide (hib r.ul=hib r.uh):=by
 rw[api w.1,api w.2.1]
 cases hib r.ul<;>cases hib r.uh<;>rfl
theorem il {r:Rg} (w:r.wf) (h:(opI .shr .u64 r.ul 63==opI .shr .u64 r.uh 63)=true):bsgn r=⟨r.ul,r.uh,max r.sl (IntKind.i64.wrap r.ul),min r.sh (IntKind.i64.wrap r.uh)⟩:=by
 rw[aqL w,bl] at h
 unfold bsgn
 rw[if_pos h,cd,cd]
theorem mH {r:Rg} (w:r.wf) (h:(opI .shr .u64 r.ul 63==opI .shr .u64 r.uh 63)=false):bsgn r=⟨r.ul,r.uh,r.sl,r.sh⟩:=by
 rw[aqL w,decide_eq_false_iff_not] at h
 unfold bsgn
 rw[if_neg h]
theorem sZ {r:Rg} (h:(decide (r.sl<0)==decide (r.sh<0))=true):buns r=⟨max r.ul (IntKind.u64.wrap r.sl),min r.uh (IntKind.u64.wrap r.sh),r.sl,r.sh⟩:=by
 unfold buns
 rw[if_pos (eq_of_beq h)]
theorem aaV {r:Rg} (h:(decide (r.sl<0)==decide (r.sh<0))=false):buns r=⟨r.ul,r.uh,r.sl,r.sh⟩:=by
 unfold buns
 rw[if_neg (fun e=>by rw[e] at h;simp at h)]
def z_Rg:List C:=[.int .u64 (.lit 0),.int .u64 (.lit 0),.int .i64 (.lit 0),.int .i64 (.lit 0)]
theorem aqU:Tryz.prog.eqGuardType Tryz.prog.depth 44=false:=by kernel_rfl
theorem abM:Tryz.prog.cellsOf 44=4:=by kernel_rfl
theorem abP:Tryz.prog.cellsOf 42=1:=by kernel_rfl
theorem agT:Tryz.prog.cellsOf 2=1:=by kernel_rfl
theorem arR (vs:List Value) (hv:aG vs z_Rg):Tryz.prog.keyLits 6 44 vs=some (bF vs):=by
 obtain⟨x0,_,rfl,g0,hv⟩:=ak hv
 obtain⟨x1,_,rfl,g1,hv⟩:=ak hv
 obtain⟨x2,_,rfl,g2,hv⟩:=ak hv
 obtain⟨x3,_,rfl,g3,hv⟩:=ak hv
 obtain rfl:=bf hv
 simp[Program.keyLits,Tryz.underlying44,Tryz.underlying42,Tryz.underlying2,abM,abP,agT,aas,bF,g0,g1,g2,g3]
theorem aso (vs:List Value) (hv:aG vs z_Rg):(Value.agg vs.toArray).formed Tryz.prog 44=true:=by
 obtain⟨x0,_,rfl,g0,hv⟩:=ak hv
 obtain⟨x1,_,rfl,g1,hv⟩:=ak hv
 obtain⟨x2,_,rfl,g2,hv⟩:=ak hv
 obtain⟨x3,_,rfl,g3,hv⟩:=ak hv
 obtain rfl:=bf hv
 kernel_rfl
theorem asr (vs us:List Value) (hv:aG vs z_Rg) (hu:aG us z_Rg) (w:World):(Op.equal 44 (.agg vs.toArray) (.agg us.toArray)).run Tryz.prog w=.ok (eqVs vs us) w:=
 fe (by kernel_rfl) aso 6 arR vs us hv hu w
def tys_XbB:List (Nat×TI):=[(2,tiq2),
 (3,tiq3),
 (4,tiq4),
 (42,fP),
 (44,⟨true,4,(zN 4 2211),[(0,42),(1,42),(2,2),(3,2)],none,none,true,false,none,32,false,none,false,0⟩),
 (209,ac4),
 (213,ac3)]
theorem acG:(tys_XbB.all fun p=>ckTI Tryz.prog p.1 p.2)=true:=by kernel_rfl
theorem tu:(tys_XbB.all fun p=>!p.2.eqok||((Nat.beq p.1 44&&aX p.2.zero z_Rg)))=true:=by kernel_rfl
theorem acm:(tys_XbB.all fun p=>!p.2.keyok)=true:=by kernel_rfl
theorem eM:∀t i,(t,i)∈tys_XbB->TIok Tryz.prog t i:=by
 intro t i h
 refine bE (cC (f:=ckTI Tryz.prog) acG h) (fun he=> ?_) (fun he=> ?_) (fun he=> ?_)
 ·have h1:=thm7.1 tu (t,i) h
  simp only[he,Bool.not_true,Bool.false_or,bG,thm0] at h1
  have hs:=h1.2
  obtain rfl:=thm1 h1.1
  exact fun vs us hv hu=>asr vs us (ar hs hv) (ar hs hu)
 ·have h1:=thm7.1 tu (t,i) h
  simp only[he,Bool.not_true,Bool.false_or,bG,thm0] at h1
  have hs:=h1.2
  obtain rfl:=thm1 h1.1
  exact aqU
 ·have h1:=thm7.1 acm (t,i) h
  simp[he] at h1
def uM (key:Nat):Sm:=⟨201,key,[.agg kRg],[.agg kRg,.one .bool],true⟩
def ur (a:Rg):List Dt:=[.z ((bnar a).ul),.z ((bnar a).uh),.z ((bnar a).sl),.z ((bnar a).sh),.z (b2i (bnok a))]
def jK:List Dt->List Dt
 | [.z x0,.z x1,.z x2,.z x3]=>ur ⟨x0,x1,x2,x3⟩
 | _=>[]
def zsh2:Tr:=(.call 0 [.bool] (.vs 29 4 .nil) 33
(.br (.bw 33)
(.call 2 (kPu) (.vs 29 4 .nil) 34
(.call 3 (kPi) (.vs 29 4 .nil) 36
(.leaf (.vs 29 4 (.cb (.tt true) .nil)))))
(.call 1 (kRg) .nil 34
(.leaf (.vs 34 4 (.cb (.tt false) .nil))))))
def zsh1:Tr:=(.call 0 [.bool] (.vs 31 4 .nil) 35
(.br (.bw 35)
(.call 2 (kPu) (.vs 31 4 .nil) 36
(.call 3 (kPi) (.vs 31 4 .nil) 38
(.leaf (.vs 31 4 (.cb (.tt true) .nil)))))
(.call 1 (kRg) .nil 36
(.leaf (.vs 36 4 (.cb (.tt false) .nil))))))
def zsh0:Tr:=(.call 0 [.bool] (.vs 20 4 .nil) 24
(.br (.bw 24)
(.call 2 (kPu) (.vs 20 4 .nil) 25
(.call 3 (kPi) (.vs 20 4 .nil) 27
(.br (.eq (.bin .shr .u64 (.var 25) (.lit 63)) (.bin .shr .u64 (.var 26) (.lit 63)))
(.call 5 (kPi) (.vs 27 2 (.cons (.conv .i64 (.var 25)) (.cons (.conv .i64 (.var 26)) .nil))) 29
(.call 6 (kRg) (.vs 25 2 (.vs 29 2 .nil)) 31
 zsh1))
(.call 6 (kRg) (.vs 25 4 .nil) 29
 zsh2))))
(.call 1 (kRg) .nil 25
(.leaf (.vs 25 4 (.cb (.tt false) .nil))))))
def sT_nar:Tr:=
(.call 0 [.bool] (.vs 0 4 .nil) 4
(.br (.bw 4)
(.call 2 (kPu) (.vs 0 4 .nil) 5
(.call 3 (kPi) (.vs 0 4 .nil) 7
(.br (.eq (.bin .shr .u64 (.var 5) (.lit 63)) (.bin .shr .u64 (.var 6) (.lit 63)))
(.call 5 (kPi) (.vs 7 2 (.cons (.conv .i64 (.var 5)) (.cons (.conv .i64 (.var 6)) .nil))) 9
(.call 6 (kRg) (.vs 5 2 (.vs 9 2 .nil)) 11
(.call 0 [.bool] (.vs 11 4 .nil) 15
(.br (.bw 15)
(.call 2 (kPu) (.vs 11 4 .nil) 16
(.call 3 (kPi) (.vs 11 4 .nil) 18
(.br (.beq (.lt (.var 18) (.lit 0)) (.lt (.var 19) (.lit 0)))
(.call 4 (kPu) (.vs 16 2 (.cons (.conv .u64 (.var 18)) (.cons (.conv .u64 (.var 19)) .nil))) 20
(.call 6 (kRg) (.vs 20 2 (.vs 18 2 .nil)) 22
(.call 0 [.bool] (.vs 22 4 .nil) 26
(.br (.bw 26)
(.call 2 (kPu) (.vs 22 4 .nil) 27
(.call 3 (kPi) (.vs 22 4 .nil) 29
(.br (.eq (.bin .shr .u64 (.var 27) (.lit 63)) (.bin .shr .u64 (.var 28) (.lit 63)))
(.call 5 (kPi) (.vs 29 2 (.cons (.conv .i64 (.var 27)) (.cons (.conv .i64 (.var 28)) .nil))) 31
(.call 6 (kRg) (.vs 27 2 (.vs 31 2 .nil)) 33
(.call 0 [.bool] (.vs 33 4 .nil) 37
(.br (.bw 37)
(.call 2 (kPu) (.vs 33 4 .nil) 38
(.call 3 (kPi) (.vs 33 4 .nil) 40
(.leaf (.vs 33 4 (.cb (.tt true) .nil)))))
(.call 1 (kRg) .nil 38
(.leaf (.vs 38 4 (.cb (.tt false) .nil))))))))
(.call 6 (kRg) (.vs 27 4 .nil) 31
 zsh1))))
(.call 1 (kRg) .nil 27
(.leaf (.vs 27 4 (.cb (.tt false) .nil))))))))
(.call 6 (kRg) (.vs 16 4 .nil) 20
 zsh0))))
(.call 1 (kRg) .nil 16
(.leaf (.vs 16 4 (.cb (.tt false) .nil))))))))
(.call 6 (kRg) (.vs 5 4 .nil) 9
(.call 0 [.bool] (.vs 9 4 .nil) 13
(.br (.bw 13)
(.call 2 (kPu) (.vs 9 4 .nil) 14
(.call 3 (kPi) (.vs 9 4 .nil) 16
(.br (.beq (.lt (.var 16) (.lit 0)) (.lt (.var 17) (.lit 0)))
(.call 4 (kPu) (.vs 14 2 (.cons (.conv .u64 (.var 16)) (.cons (.conv .u64 (.var 17)) .nil))) 18
(.call 6 (kRg) (.vs 18 2 (.vs 16 2 .nil)) 20
 zsh0))
(.call 6 (kRg) (.vs 14 4 .nil) 18
(.call 0 [.bool] (.vs 18 4 .nil) 22
(.br (.bw 22)
(.call 2 (kPu) (.vs 18 4 .nil) 23
(.call 3 (kPi) (.vs 18 4 .nil) 25
(.br (.eq (.bin .shr .u64 (.var 23) (.lit 63)) (.bin .shr .u64 (.var 24) (.lit 63)))
(.call 5 (kPi) (.vs 25 2 (.cons (.conv .i64 (.var 23)) (.cons (.conv .i64 (.var 24)) .nil))) 27
(.call 6 (kRg) (.vs 23 2 (.vs 27 2 .nil)) 29
 zsh2))
(.call 6 (kRg) (.vs 23 4 .nil) 27
(.call 0 [.bool] (.vs 27 4 .nil) 31
(.br (.bw 31)
(.call 2 (kPu) (.vs 27 4 .nil) 32
(.call 3 (kPi) (.vs 27 4 .nil) 34
(.leaf (.vs 27 4 (.cb (.tt true) .nil)))))
(.call 1 (kRg) .nil 32
(.leaf (.vs 32 4 (.cb (.tt false) .nil))))))))))
(.call 1 (kRg) .nil 23
(.leaf (.vs 23 4 (.cb (.tt false) .nil))))))))))
(.call 1 (kRg) .nil 14
(.leaf (.vs 14 4 (.cb (.tt false) .nil))))))))))
(.call 1 (kRg) .nil 5
(.leaf (.vs 5 4 (.cb (.tt false) .nil))))))
def akl:Spec:={F:=fun k=>match k with | 0=>cF | 1=>bv | 2=>dJ | 3=>dM | 4=>fu | 5=>fz | 6=>iS | _=>fun _=>[],pre:=fun _ _=>True}
theorem apR:ap tys_XbB [ir 0,dH 1,lC 2,lD 3,mf 4,mi 5,uL 6] [] [] [] 200 Tryz.f201 [.agg kRg] [.agg kRg,.one .bool] true [.int .u64,.int .u64,.int .i64,.int .i64] sT_nar:=⟨by kernel_rfl,by kernel_rfl,by kernel_rfl⟩
def ah:=And.intro Pi.eta (And.intro Pu.eta (Rg.eta))
theorem apv (a:Rg) (ha:Rg.ok a) (U:Env) (g:varsD U 0 [.int .u64,.int .u64,.int .i64,.int .i64]=[.z a.ul,.z a.uh,.z a.sl,.z a.sh]):sT_nar.asks akl (fun U e=>e.D U=jK [.z a.ul,.z a.uh,.z a.sl,.z a.sh]) U fun _ _=>False:=by
 simp only[varsD,varD,thm5,gS0,Nat.reduceAdd,and_true] at g
 simp only[sT_nar,zsh0,zsh1,zsh2,akl,kPi,kPu,kRg,cF,bv,dJ,dM,fu,fz,iS,iq,lA,lB,lY,me,uq,jK,ur,simQ,af,S1,Nat.reduceSub,Nat.reduceAdd,-eq_self,ah,g]
 have wfg:=Rg.wf_of ha
 intro e;(try simp only[e,ah,-eq_self]);clear e
 constructor<;>intro c0
 intro e;(try simp only[e,ah,-eq_self]);clear e
 intro e;(try simp only[e,ah,-eq_self]);clear e
 constructor<;>intro c1
 intro e;(try simp only[e,ah,-eq_self]);clear e
 intro e;(try simp only[e,ah,-eq_self]);clear e
 intro e;(try simp only[e,ah,-eq_self]);clear e
 constructor<;>intro c2
 intro e;(try simp only[e,ah,-eq_self]);clear e
 intro e;(try simp only[e,ah,-eq_self]);clear e
 constructor<;>intro c3
 intro e;(try simp only[e,ah,-eq_self]);clear e
 intro e;(try simp only[e,ah,-eq_self]);clear e
 intro e;(try simp only[e,ah,-eq_self]);clear e
 constructor<;>intro c4
 intro e;(try simp only[e,ah,-eq_self]);clear e
 intro e;(try simp only[e,ah,-eq_self]);clear e
 constructor<;>intro c5
 intro e;(try simp only[e,ah,-eq_self]);clear e
 intro e;(try simp only[e,ah,-eq_self]);clear e
 intro e;(try simp only[e,ah,-eq_self]);clear e
 constructor<;>intro c6
 intro e;(try simp only[e,ah,-eq_self]);clear e
 intro e;(try simp only[e,ah,-eq_self]);clear e
 ·(have s1:=il (wfg) (by exact c1);have s2:=sZ (r:=bsgn a) (by rw[s1];exact c3);have s3:=il (dh (di wfg)) (by rw[s2,s1];exact c5);have hok:bnok a=true:=(by unfold bnok;(try rw[s3,s2,s1]);(try rw[c0]);(try rw[c2]);(try rw[c4]);(try rw[c6]);(try rfl));have hnar:bnar a=bsgn (buns (bsgn a)):=(by unfold bnar;rw[hok];rfl);rw[hok,hnar];rw[s3,s2,s1];(try rfl))
 intro e;(try simp only[e,ah,-eq_self]);clear e
 ·(have s1:=il (wfg) (by exact c1);have s2:=sZ (r:=bsgn a) (by rw[s1];exact c3);have s3:=il (dh (di wfg)) (by rw[s2,s1];exact c5);have hok:bnok a=false:=(by unfold bnok;(try rw[s3,s2,s1]);(try rw[c0]);(try rw[c2]);(try rw[c4]);(try rw[c6]);(try rfl));have hnar:bnar a=ball:=(by unfold bnar;rw[hok];rfl);rw[hok,hnar];(try rfl))
 intro e;(try simp only[e,ah,-eq_self]);clear e
 intro e;(try simp only[e,ah,-eq_self]);clear e
 constructor<;>intro c7
 intro e;(try simp only[e,ah,-eq_self]);clear e
 intro e;(try simp only[e,ah,-eq_self]);clear e
 ·(have s1:=il (wfg) (by exact c1);have s2:=sZ (r:=bsgn a) (by rw[s1];exact c3);have s3:=mH (dh (di wfg)) (by rw[s2,s1];exact c5);have hok:bnok a=true:=(by unfold bnok;(try rw[s3,s2,s1]);(try rw[c0]);(try rw[c2]);(try rw[c4]);(try rw[c7]);(try rfl));have hnar:bnar a=bsgn (buns (bsgn a)):=(by unfold bnar;rw[hok];rfl);rw[hok,hnar];rw[s3,s2,s1];(try rfl))
 intro e;(try simp only[e,ah,-eq_self]);clear e
 ·exact absurd (c4.symm.trans c7) (by simp)
 intro e;(try simp only[e,ah,-eq_self]);clear e
 ·(have s1:=il (wfg) (by exact c1);have s2:=sZ (r:=bsgn a) (by rw[s1];exact c3);have hok:bnok a=false:=(by unfold bnok;(try rw[s2,s1]);(try rw[c0]);(try rw[c2]);(try rw[c4]);(try rfl));have hnar:bnar a=ball:=(by unfold bnar;rw[hok];rfl);rw[hok,hnar];(try rfl))
 intro e;(try simp only[e,ah,-eq_self]);clear e
 intro e;(try simp only[e,ah,-eq_self]);clear e
 constructor<;>intro c8
 intro e;(try simp only[e,ah,-eq_self]);clear e
 intro e;(try simp only[e,ah,-eq_self]);clear e
 constructor<;>intro c9
 intro e;(try simp only[e,ah,-eq_self]);clear e
 intro e;(try simp only[e,ah,-eq_self]);clear e
 intro e;(try simp only[e,ah,-eq_self]);clear e
 constructor<;>intro c10
 intro e;(try simp only[e,ah,-eq_self]);clear e
 intro e;(try simp only[e,ah,-eq_self]);clear e
 ·(have s1:=il (wfg) (by exact c1);have s2:=aaV (r:=bsgn a) (by rw[s1];exact c3);have s3:=il (dh (di wfg)) (by rw[s2,s1];exact c9);have hok:bnok a=true:=(by unfold bnok;(try rw[s3,s2,s1]);(try rw[c0]);(try rw[c2]);(try rw[c8]);(try rw[c10]);(try rfl));have hnar:bnar a=bsgn (buns (bsgn a)):=(by unfold bnar;rw[hok];rfl);rw[hok,hnar];rw[s3,s2,s1];(try rfl))
 intro e;(try simp only[e,ah,-eq_self]);clear e
 ·(have s1:=il (wfg) (by exact c1);have s2:=aaV (r:=bsgn a) (by rw[s1];exact c3);have s3:=il (dh (di wfg)) (by rw[s2,s1];exact c9);have hok:bnok a=false:=(by unfold bnok;(try rw[s3,s2,s1]);(try rw[c0]);(try rw[c2]);(try rw[c8]);(try rw[c10]);(try rfl));have hnar:bnar a=ball:=(by unfold bnar;rw[hok];rfl);rw[hok,hnar];(try rfl))
 intro e;(try simp only[e,ah,-eq_self]);clear e
 intro e;(try simp only[e,ah,-eq_self]);clear e
 constructor<;>intro c11
 intro e;(try simp only[e,ah,-eq_self]);clear e
 intro e;(try simp only[e,ah,-eq_self]);clear e
 ·(have s1:=il (wfg) (by exact c1);have s2:=aaV (r:=bsgn a) (by rw[s1];exact c3);have s3:=mH (dh (di wfg)) (by rw[s2,s1];exact c9);have hok:bnok a=true:=(by unfold bnok;(try rw[s3,s2,s1]);(try rw[c0]);(try rw[c2]);(try rw[c8]);(try rw[c11]);(try rfl));have hnar:bnar a=bsgn (buns (bsgn a)):=(by unfold bnar;rw[hok];rfl);rw[hok,hnar];rw[s3,s2,s1];(try rfl))
 intro e;(try simp only[e,ah,-eq_self]);clear e
 ·exact absurd (c8.symm.trans c11) (by simp)
 intro e;(try simp only[e,ah,-eq_self]);clear e
 ·exact absurd (c2.symm.trans c8) (by simp)
 intro e;(try simp only[e,ah,-eq_self]);clear e
 ·(have s1:=il (wfg) (by exact c1);have hok:bnok a=false:=(by unfold bnok;(try rw[s1]);(try rw[c0]);(try rw[c2]);(try rfl));have hnar:bnar a=ball:=(by unfold bnar;rw[hok];rfl);rw[hok,hnar];(try rfl))
 intro e;(try simp only[e,ah,-eq_self]);clear e
 intro e;(try simp only[e,ah,-eq_self]);clear e
 constructor<;>intro c12
 intro e;(try simp only[e,ah,-eq_self]);clear e
 intro e;(try simp only[e,ah,-eq_self]);clear e
 constructor<;>intro c13
 intro e;(try simp only[e,ah,-eq_self]);clear e
 intro e;(try simp only[e,ah,-eq_self]);clear e
 intro e;(try simp only[e,ah,-eq_self]);clear e
 constructor<;>intro c14
 intro e;(try simp only[e,ah,-eq_self]);clear e
 intro e;(try simp only[e,ah,-eq_self]);clear e
 constructor<;>intro c15
 intro e;(try simp only[e,ah,-eq_self]);clear e
 intro e;(try simp only[e,ah,-eq_self]);clear e
 intro e;(try simp only[e,ah,-eq_self]);clear e
 constructor<;>intro c16
 intro e;(try simp only[e,ah,-eq_self]);clear e
 intro e;(try simp only[e,ah,-eq_self]);clear e
 ·(have s1:=mH (wfg) (by exact c1);have s2:=sZ (r:=bsgn a) (by rw[s1];exact c13);have s3:=il (dh (di wfg)) (by rw[s2,s1];exact c15);have hok:bnok a=true:=(by unfold bnok;(try rw[s3,s2,s1]);(try rw[c0]);(try rw[c12]);(try rw[c14]);(try rw[c16]);(try rfl));have hnar:bnar a=bsgn (buns (bsgn a)):=(by unfold bnar;rw[hok];rfl);rw[hok,hnar];rw[s3,s2,s1];(try rfl))
 intro e;(try simp only[e,ah,-eq_self]);clear e
 ·(have s1:=mH (wfg) (by exact c1);have s2:=sZ (r:=bsgn a) (by rw[s1];exact c13);have s3:=il (dh (di wfg)) (by rw[s2,s1];exact c15);have hok:bnok a=false:=(by unfold bnok;(try rw[s3,s2,s1]);(try rw[c0]);(try rw[c12]);(try rw[c14]);(try rw[c16]);(try rfl));have hnar:bnar a=ball:=(by unfold bnar;rw[hok];rfl);rw[hok,hnar];(try rfl))
 intro e;(try simp only[e,ah,-eq_self]);clear e
 intro e;(try simp only[e,ah,-eq_self]);clear e
 constructor<;>intro c17
 intro e;(try simp only[e,ah,-eq_self]);clear e
 intro e;(try simp only[e,ah,-eq_self]);clear e
 ·(have s1:=mH (wfg) (by exact c1);have s2:=sZ (r:=bsgn a) (by rw[s1];exact c13);have s3:=mH (dh (di wfg)) (by rw[s2,s1];exact c15);have hok:bnok a=true:=(by unfold bnok;(try rw[s3,s2,s1]);(try rw[c0]);(try rw[c12]);(try rw[c14]);(try rw[c17]);(try rfl));have hnar:bnar a=bsgn (buns (bsgn a)):=(by unfold bnar;rw[hok];rfl);rw[hok,hnar];rw[s3,s2,s1];(try rfl))
 intro e;(try simp only[e,ah,-eq_self]);clear e
 ·exact absurd (c14.symm.trans c17) (by simp)
 intro e;(try simp only[e,ah,-eq_self]);clear e
 ·(have s1:=mH (wfg) (by exact c1);have s2:=sZ (r:=bsgn a) (by rw[s1];exact c13);have hok:bnok a=false:=(by unfold bnok;(try rw[s2,s1]);(try rw[c0]);(try rw[c12]);(try rw[c14]);(try rfl));have hnar:bnar a=ball:=(by unfold bnar;rw[hok];rfl);rw[hok,hnar];(try rfl))
 intro e;(try simp only[e,ah,-eq_self]);clear e
 intro e;(try simp only[e,ah,-eq_self]);clear e
 constructor<;>intro c18
 intro e;(try simp only[e,ah,-eq_self]);clear e
 intro e;(try simp only[e,ah,-eq_self]);clear e
 constructor<;>intro c19
 intro e;(try simp only[e,ah,-eq_self]);clear e
 intro e;(try simp only[e,ah,-eq_self]);clear e
 intro e;(try simp only[e,ah,-eq_self]);clear e
 constructor<;>intro c20
 intro e;(try simp only[e,ah,-eq_self]);clear e
 intro e;(try simp only[e,ah,-eq_self]);clear e
 ·(have s1:=mH (wfg) (by exact c1);have s2:=aaV (r:=bsgn a) (by rw[s1];exact c13);have s3:=il (dh (di wfg)) (by rw[s2,s1];exact c19);have hok:bnok a=true:=(by unfold bnok;(try rw[s3,s2,s1]);(try rw[c0]);(try rw[c12]);(try rw[c18]);(try rw[c20]);(try rfl));have hnar:bnar a=bsgn (buns (bsgn a)):=(by unfold bnar;rw[hok];rfl);rw[hok,hnar];rw[s3,s2,s1];(try rfl))
 intro e;(try simp only[e,ah,-eq_self]);clear e
 ·(have s1:=mH (wfg) (by exact c1);have s2:=aaV (r:=bsgn a) (by rw[s1];exact c13);have s3:=il (dh (di wfg)) (by rw[s2,s1];exact c19);have hok:bnok a=false:=(by unfold bnok;(try rw[s3,s2,s1]);(try rw[c0]);(try rw[c12]);(try rw[c18]);(try rw[c20]);(try rfl));have hnar:bnar a=ball:=(by unfold bnar;rw[hok];rfl);rw[hok,hnar];(try rfl))
 intro e;(try simp only[e,ah,-eq_self]);clear e
 intro e;(try simp only[e,ah,-eq_self]);clear e
 constructor<;>intro c21
 intro e;(try simp only[e,ah,-eq_self]);clear e
 intro e;(try simp only[e,ah,-eq_self]);clear e
 ·(have s1:=mH (wfg) (by exact c1);have s2:=aaV (r:=bsgn a) (by rw[s1];exact c13);have s3:=mH (dh (di wfg)) (by rw[s2,s1];exact c19);have hok:bnok a=true:=(by unfold bnok;(try rw[s3,s2,s1]);(try rw[c0]);(try rw[c12]);(try rw[c18]);(try rw[c21]);(try rfl));have hnar:bnar a=bsgn (buns (bsgn a)):=(by unfold bnar;rw[hok];rfl);rw[hok,hnar];rw[s3,s2,s1];(try rfl))
 intro e;(try simp only[e,ah,-eq_self]);clear e
 ·exact absurd (c18.symm.trans c21) (by simp)
 intro e;(try simp only[e,ah,-eq_self]);clear e
 ·exact absurd (c12.symm.trans c18) (by simp)
 intro e;(try simp only[e,ah,-eq_self]);clear e
 ·exact absurd (c0.symm.trans c12) (by simp)
 intro e;(try simp only[e,ah,-eq_self]);clear e
 ·(have hok:bnok a=false:=(by unfold bnok;(try rw[hok]);(try rw[c0]);(try rfl));have hnar:bnar a=ball:=(by unfold bnar;rw[hok];rfl);rw[hok,hnar];(try rfl))
theorem mxo9:Tryz.prog.follows .mixedOrders=true:=by kernel_rfl
theorem afp {sp:Spec} {key:Nat} (hF:sp.F key=jK) (hP:sp.pre key=fun _=>True:=by rfl):SmOk Tryz.prog sp (uM key):=
 au (s:=uM key) hF hP mxo9 eM (smc (lE rfl) (smc (eU rfl) (smc (pq rfl) (smc (pt rfl) (smc (zE rfl) (smc (zH rfl) (smc (aba rfl) sm0))))))) Tryz.func201 fn0 apR (.inl rfl) (fun x0 gx0 x1 gx1 x2 gx2 x3 gx3 hp U g=>apv ⟨x0,x1,x2,x3⟩ ⟨gx0,gx1,gx2,gx3⟩ U g)
def xj (key:Nat):Sm:=⟨240,key,[.one (.int .i64),.one (.int .i64)],[.one (.int .i64),.one .bool],true⟩
def wJ (a:Int) (b:Int):List Dt:=[.z (IntKind.i64.wrap (a+b)),.z (b2i (decide (-9223372036854775808<=a+b/\a+b<=9223372036854775807)))]
def nP:List Dt->List Dt
 | [.z x0,.z x1]=>wJ x0 x1
 | _=>[]
def sT_plus:Tr:=
(.leaf (.cons (.bin .add .i64 (.var 0) (.var 1)) (.cb (.not (.lt (.bin .and .i64 (.bin .xor .i64 (.var 0) (.bin .add .i64 (.var 0) (.var 1))) (.bin .xor .i64 (.var 1) (.bin .add .i64 (.var 0) (.var 1)))) (.lit 0))) .nil)))
def aeF:Spec:={F:=fun k=>match k with | _=>fun _=>[],pre:=fun _ _=>True}
theorem ane:ap tys_XbB [] [] [] [] 200 Tryz.f240 [.one (.int .i64),.one (.int .i64)] [.one (.int .i64),.one .bool] true [.int .i64,.int .i64] sT_plus:=⟨by kernel_rfl,by kernel_rfl,by kernel_rfl⟩
theorem amx (a:Int) (ha:inK .i64 a=true) (b:Int) (hb:inK .i64 b=true) (U:Env) (g:varsD U 0 [.int .i64,.int .i64]=[.z a,.z b]):sT_plus.asks aeF (fun U e=>e.D U=nP [.z a,.z b]) U fun _ _=>False:=by
 simp only[varsD,varD,thm5,gS0,Nat.reduceAdd,and_true] at g
 simp only[sT_plus,aeF,nP,wJ,simQ,af,S1,Nat.reduceSub,Nat.reduceAdd,-eq_self,g]
 ·(have ga:=fF ha;have gb:=fF hb;simp only[opI,<-bV,<-afQ ga.1 ga.2 gb.1 gb.2,Go.IntWalk.i64_left])
theorem anN {sp:Spec} {key:Nat} (hF:sp.F key=nP) (hP:sp.pre key=fun _=>True:=by rfl):SmOk Tryz.prog sp (xj key):=
 au (s:=xj key) hF hP mxo9 eM (sm0) Tryz.func240 fn0 ane (.inl rfl) (fun x0 gx0 x1 gx1 hp U g=>amx x0 gx0 x1 gx1 U g)
def rJ (key:Nat):Sm:=⟨241,key,[.one (.int .i64),.one (.int .i64)],[.one (.int .i64),.one .bool],true⟩
def qU (a:Int) (b:Int):List Dt:=[.z (IntKind.i64.wrap (a-b)),.z (b2i (decide (-9223372036854775808<=a-b/\a-b<=9223372036854775807)))]
def jL:List Dt->List Dt
 | [.z x0,.z x1]=>qU x0 x1
 | _=>[]
def sT_minus:Tr:=
(.leaf (.cons (.bin .sub .i64 (.var 0) (.var 1)) (.cb (.not (.lt (.bin .and .i64 (.bin .xor .i64 (.var 0) (.var 1)) (.bin .xor .i64 (.var 0) (.bin .sub .i64 (.var 0) (.var 1)))) (.lit 0))) .nil)))
def zp:Spec:={F:=fun k=>match k with | _=>fun _=>[],pre:=fun _ _=>True}
theorem aiJ:ap tys_XbB [] [] [] [] 200 Tryz.f241 [.one (.int .i64),.one (.int .i64)] [.one (.int .i64),.one .bool] true [.int .i64,.int .i64] sT_minus:=⟨by kernel_rfl,by kernel_rfl,by kernel_rfl⟩
theorem aif (a:Int) (ha:inK .i64 a=true) (b:Int) (hb:inK .i64 b=true) (U:Env) (g:varsD U 0 [.int .i64,.int .i64]=[.z a,.z b]):sT_minus.asks zp (fun U e=>e.D U=jL [.z a,.z b]) U fun _ _=>False:=by
 simp only[varsD,varD,thm5,gS0,Nat.reduceAdd,and_true] at g
 simp only[sT_minus,zp,jL,qU,simQ,af,S1,Nat.reduceSub,Nat.reduceAdd,-eq_self,g]
 ·(have ga:=fF ha;have gb:=fF hb;simp only[opI,<-bV,<-abl ga.1 ga.2 gb.1 gb.2,Go.IntWalk.i64_left])
theorem ai8 {sp:Spec} {key:Nat} (hF:sp.F key=jL) (hP:sp.pre key=fun _=>True:=by rfl):SmOk Tryz.prog sp (rJ key):=
 au (s:=rJ key) hF hP mxo9 eM (sm0) Tryz.func241 fn0 aiJ (.inl rfl) (fun x0 gx0 x1 gx1 hp U g=>aif x0 gx0 x1 gx1 U g)
def rI (key:Nat):Sm:=⟨225,key,[.agg kRg],[.agg kRg],false⟩
def qT (a:Rg):List Dt:=[.z ((bnar a).ul),.z ((bnar a).uh),.z ((bnar a).sl),.z ((bnar a).sh)]
def iU:List Dt->List Dt
 | [.z x0,.z x1,.z x2,.z x3]=>qT ⟨x0,x1,x2,x3⟩
 | _=>[]
def sT_nard:Tr:=
(.call 0 (kRg++[.bool]) (.vs 0 4 .nil) 4
(.leaf (.vs 4 4 .nil)))
def aeH:Spec:={F:=fun k=>match k with | 0=>jK | _=>fun _=>[],pre:=fun _ _=>True}
theorem ang:ap tys_XbB [uM 0] [] [] [] 200 Tryz.f225 [.agg kRg] [.agg kRg] false [.int .u64,.int .u64,.int .i64,.int .i64] sT_nard:=⟨by kernel_rfl,by kernel_rfl,by kernel_rfl⟩
theorem amz (a:Rg) (ha:Rg.ok a) (U:Env) (g:varsD U 0 [.int .u64,.int .u64,.int .i64,.int .i64]=[.z a.ul,.z a.uh,.z a.sl,.z a.sh]):sT_nard.asks aeH (fun U e=>e.D U=iU [.z a.ul,.z a.uh,.z a.sl,.z a.sh]) U fun _ _=>False:=by
 simp only[varsD,varD,thm5,gS0,Nat.reduceAdd,and_true] at g
 simp only[sT_nard,aeH,kRg,jK,ur,iU,qT,simQ,af,S1,Nat.reduceSub,Nat.reduceAdd,-eq_self,ah,g]
 intro e;(try simp only[e,ah,-eq_self]);clear e
 ·rfl
theorem afo {sp:Spec} {key:Nat} (hF:sp.F key=iU) (hP:sp.pre key=fun _=>True:=by rfl):SmOk Tryz.prog sp (rI key):=
 au (s:=rI key) hF hP mxo9 eM (smc (afp rfl) sm0) Tryz.func225 fn0 ang (.inl rfl) (fun x0 gx0 x1 gx1 x2 gx2 x3 gx3 hp U g=>amz ⟨x0,x1,x2,x3⟩ ⟨gx0,gx1,gx2,gx3⟩ U g)
def rK (key:Nat):Sm:=⟨193,key,[.agg kRg,.agg kRg],[.agg kRg,.one .bool],true⟩
def qV (a:Rg) (b:Rg):List Dt:=[.z ((lg a b).ul),.z ((lg a b).uh),.z ((lg a b).sl),.z ((lg a b).sh),.z (b2i (iD a b))]
def iV:List Dt->List Dt
 | [.z x0,.z x1,.z x2,.z x3,.z x4,.z x5,.z x6,.z x7]=>qV ⟨x0,x1,x2,x3⟩ ⟨x4,x5,x6,x7⟩
 | _=>[]
def sT_meet:Tr:=
(.call 0 [.bool] (.vs 0 4 .nil) 8
(.br (.bw 8)
(.call 0 [.bool] (.vs 4 4 .nil) 9
(.br (.bw 9)
(.call 2 (kPu) (.vs 0 4 .nil) 10
(.call 2 (kPu) (.vs 4 4 .nil) 12
(.call 4 (kPu) (.vs 10 4 .nil) 14
(.call 3 (kPi) (.vs 0 4 .nil) 16
(.call 3 (kPi) (.vs 4 4 .nil) 18
(.call 5 (kPi) (.vs 16 4 .nil) 20
(.call 6 (kRg) (.vs 14 2 (.vs 20 2 .nil)) 22
(.call 7 (kRg++[.bool]) (.vs 22 4 .nil) 26
(.leaf (.vs 26 4 (.cb (.bw 30) .nil)))))))))))
(.call 1 (kRg) .nil 10
(.leaf (.vs 10 4 (.cb (.tt false) .nil))))))
(.call 1 (kRg) .nil 9
(.leaf (.vs 9 4 (.cb (.tt false) .nil))))))
def aeI:Spec:={F:=fun k=>match k with | 0=>cF | 1=>bv | 2=>dJ | 3=>dM | 4=>fu | 5=>fz | 6=>iS | 7=>jK | _=>fun _=>[],pre:=fun _ _=>True}
theorem anh:ap tys_XbB [ir 0,dH 1,lC 2,lD 3,mf 4,mi 5,uL 6,uM 7] [] [] [] 200 Tryz.f193 [.agg kRg,.agg kRg] [.agg kRg,.one .bool] true [.int .u64,.int .u64,.int .i64,.int .i64,.int .u64,.int .u64,.int .i64,.int .i64] sT_meet:=⟨by kernel_rfl,by kernel_rfl,by kernel_rfl⟩
theorem amA (a:Rg) (ha:Rg.ok a) (b:Rg) (hb:Rg.ok b) (U:Env) (g:varsD U 0 [.int .u64,.int .u64,.int .i64,.int .i64,.int .u64,.int .u64,.int .i64,.int .i64]=[.z a.ul,.z a.uh,.z a.sl,.z a.sh,.z b.ul,.z b.uh,.z b.sl,.z b.sh]):sT_meet.asks aeI (fun U e=>e.D U=iV [.z a.ul,.z a.uh,.z a.sl,.z a.sh,.z b.ul,.z b.uh,.z b.sl,.z b.sh]) U fun _ _=>False:=by
 simp only[varsD,varD,thm5,gS0,Nat.reduceAdd,and_true] at g
 simp only[sT_meet,aeI,kPi,kPu,kRg,cF,bv,dJ,dM,fu,fz,iS,jK,iq,lA,lB,lY,me,uq,ur,iV,qV,simQ,af,S1,Nat.reduceSub,Nat.reduceAdd,-eq_self,ah,g]
 intro e;(try simp only[e,ah,-eq_self]);clear e
 constructor<;>intro c0
 intro e;(try simp only[e,ah,-eq_self]);clear e
 constructor<;>intro c1
 intro e;(try simp only[e,ah,-eq_self]);clear e
 intro e;(try simp only[e,ah,-eq_self]);clear e
 intro e;(try simp only[e,ah,-eq_self]);clear e
 intro e;(try simp only[e,ah,-eq_self]);clear e
 intro e;(try simp only[e,ah,-eq_self]);clear e
 intro e;(try simp only[e,ah,-eq_self]);clear e
 intro e;(try simp only[e,ah,-eq_self]);clear e
 intro e;(try simp only[e,ah,-eq_self]);clear e
 ·(unfold lg iD;simp_all [vW,yo])
 intro e;(try simp only[e,ah,-eq_self]);clear e
 ·(unfold lg iD;simp_all [vW,yo])
 intro e;(try simp only[e,ah,-eq_self]);clear e
 ·(unfold lg iD;simp_all [vW,yo])
theorem afq {sp:Spec} {key:Nat} (hF:sp.F key=iV) (hP:sp.pre key=fun _=>True:=by rfl):SmOk Tryz.prog sp (rK key):=
 au (s:=rK key) hF hP mxo9 eM (smc (lE rfl) (smc (eU rfl) (smc (pq rfl) (smc (pt rfl) (smc (zE rfl) (smc (zH rfl) (smc (aba rfl) (smc (afp rfl) sm0)))))))) Tryz.func193 fn0 anh (.inl rfl) (fun x0 gx0 x1 gx1 x2 gx2 x3 gx3 x4 gx4 x5 gx5 x6 gx6 x7 gx7 hp U g=>amA ⟨x0,x1,x2,x3⟩ ⟨gx0,gx1,gx2,gx3⟩ ⟨x4,x5,x6,x7⟩ ⟨gx4,gx5,gx6,gx7⟩ U g)
def zC (key:Nat):Sm:=⟨234,key,[.agg kRg],[.agg kRg],false⟩
def yV (a:Rg):List Dt:=[.z ((blow a).ul),.z ((blow a).uh),.z ((blow a).sl),.z ((blow a).sh)]
def nR:List Dt->List Dt
 | [.z x0,.z x1,.z x2,.z x3]=>yV ⟨x0,x1,x2,x3⟩
 | _=>[]
def zsh3:Tr:=(.call 1 (kRg) .nil 5
(.call 2 (kRg) (.cons (.var 5) (.cons (.lit 4294967295) (.vs 7 2 .nil))) 9
(.leaf (.vs 9 4 .nil))))
def sT_low:Tr:=
(.call 0 [.bool] (.vs 0 4 .nil) 4
(.br (.bw 4)
(.br (.lt (.lit 4294967295) (.var 1))
 zsh3
(.leaf (.vs 0 4 .nil)))
 zsh3))
def akn:Spec:={F:=fun k=>match k with | 0=>cF | 1=>bv | 2=>iU | _=>fun _=>[],pre:=fun _ _=>True}
theorem apT:ap tys_XbB [ir 0,dH 1,rI 2] [] [] [] 200 Tryz.f234 [.agg kRg] [.agg kRg] false [.int .u64,.int .u64,.int .i64,.int .i64] sT_low:=⟨by kernel_rfl,by kernel_rfl,by kernel_rfl⟩
theorem apx (a:Rg) (ha:Rg.ok a) (U:Env) (g:varsD U 0 [.int .u64,.int .u64,.int .i64,.int .i64]=[.z a.ul,.z a.uh,.z a.sl,.z a.sh]):sT_low.asks akn (fun U e=>e.D U=nR [.z a.ul,.z a.uh,.z a.sl,.z a.sh]) U fun _ _=>False:=by
 simp only[varsD,varD,thm5,gS0,Nat.reduceAdd,and_true] at g
 simp only[sT_low,zsh3,akn,kRg,cF,bv,iU,iq,qT,nR,yV,simQ,af,S1,Nat.reduceSub,Nat.reduceAdd,-eq_self,ah,g]
 intro e;(try simp only[e,ah,-eq_self]);clear e
 constructor<;>intro c0
 constructor<;>intro c1
 intro e;(try simp only[e,ah,-eq_self]);clear e
 intro e;(try simp only[e,ah,-eq_self]);clear e
 ·(rw[show blow a=bnar (bu 0 4294967295) from if_neg (fun q=>absurd (thm3 c1) (bm.2 q.2))];try rfl)
 ·(rw[show blow a=a from if_pos ⟨c0,bm.1 (thm2 c1)⟩];try rfl)
 intro e;(try simp only[e,ah,-eq_self]);clear e
 intro e;(try simp only[e,ah,-eq_self]);clear e
 ·(rw[show blow a=bnar (bu 0 4294967295) from if_neg (fun q=>by rw[c0] at q;exact absurd q.1 (by simp))];try rfl)
theorem akw {sp:Spec} {key:Nat} (hF:sp.F key=nR) (hP:sp.pre key=fun _=>True:=by rfl):SmOk Tryz.prog sp (zC key):=
 au (s:=zC key) hF hP mxo9 eM (smc (lE rfl) (smc (eU rfl) (smc (afo rfl) sm0))) Tryz.func234 fn0 apT (.inl rfl) (fun x0 gx0 x1 gx1 x2 gx2 x3 gx3 hp U g=>apx ⟨x0,x1,x2,x3⟩ ⟨gx0,gx1,gx2,gx3⟩ U g)
end Go.Proofs.YtfkhblmeioiciaaGreatDoor
