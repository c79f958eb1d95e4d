import Derived.Test.YtfkhblmeioiciaaGreatDoorXbA
import Derived.Test.YtfkhblmeioiciaaGreatDoorProg
import Derived.Laws.Externs
set_option maxRecDepth 100000
set_option maxHeartbeats 8000000
set_option linter.unusedVariables false
set_option linter.unusedSimpArgs false
namespace Go.Proofs.YtfkhblmeioiciaaGreatDoor
open Go.RowKit Go.ChangeShapes Go.WideShapes
theorem xR (r:Rg):(if bnok r=true then bnar r else ball)=bnar r:=by
 unfold bnar
 split<;>simp_all
theorem Rg.ext_iff {a b:Rg}:a=b↔a.ul=b.ul/\a.uh=b.uh/\a.sl=b.sl/\a.sh=b.sh:=by
 cases a; cases b; simp
theorem cv {x:Int} (h:inK .u64 x=true):0<=x/\x<=18446744073709551615:=by
 rw[bo] at h; simpa[IntKind.min,IntKind.max,IntKind.signed,IntKind.bits] using h
theorem fu {x:Int} (h:inK .i64 x=true) : -9223372036854775808<=x/\x<=9223372036854775807:=by
 rw[bo] at h; simpa[IntKind.min,IntKind.max,IntKind.signed,IntKind.bits] using h
theorem Rg.wf_of {a:Rg} (h:a.ok):a.wf:=⟨cv h.1,cv h.2.1,fu h.2.2.1,fu h.2.2.2⟩
theorem anX {x:Int} (h:0<=x/\x<=18446744073709551615):opI .shr .u64 x 63=if hib x=true then 1 else 0:=by
 show x.fdiv (2 ^ 63)=_
 rw[Int.fdiv_eq_ediv_of_nonneg _ (by omega)]
 unfold hib
 split
 ·rename_i hh; have:=thm3 hh; omega
 ·rename_i hh; have:¬9223372036854775808<=x:=fun e=>hh (fE e); omega
theorem apr {r:Rg} (w:r.wf):(opI .shr .u64 r.ul 63==opI .shr .u64 r.uh 63)=decide (hib r.ul=hib r.uh):=by
 rw[anX w.1,anX w.2.1]
 cases hib r.ul<;>cases hib r.uh<;>rfl
theorem gU {r:Rg} (w:r.wf) (h:(opI .shr .u64 r.ul 63==opI .shr .u64 r.uh 63)=true):bsgn r=⟨r.ul,r.uh,max r.sl (IntKind.i64.wrap r.ul),min r.sh (IntKind.i64.wrap r.uh)⟩:=by
 rw[apr w,bm] at h
 unfold bsgn
 rw[if_pos h,cb,cb]
theorem mt {r:Rg} (w:r.wf) (h:(opI .shr .u64 r.ul 63==opI .shr .u64 r.uh 63)=false):bsgn r=⟨r.ul,r.uh,r.sl,r.sh⟩:=by
 rw[apr w,decide_eq_false_iff_not] at h
 unfold bsgn
 rw[if_neg h]
theorem sF {r:Rg} (h:(decide (r.sl<0)==decide (r.sh<0))=true):buns r=⟨max r.ul (IntKind.u64.wrap r.sl),min r.uh (IntKind.u64.wrap r.sh),r.sl,r.sh⟩:=by
 unfold buns
 rw[if_pos (eq_of_beq h)]
theorem aaA {r:Rg} (h:(decide (r.sl<0)==decide (r.sh<0))=false):buns r=⟨r.ul,r.uh,r.sl,r.sh⟩:=by
 unfold buns
 rw[if_neg (fun e=>by rw[e] at h; simp at h)]
def z_Rg:List C:=[.int .u64 (.lit 0),.int .u64 (.lit 0),.int .i64 (.lit 0),.int .i64 (.lit 0)]
theorem apA:Tryz.prog.eqGuardType Tryz.prog.depth 44=false:=by kernel_rfl
theorem abw:Tryz.prog.cellsOf 44=4:=by kernel_rfl
theorem abz:Tryz.prog.cellsOf 42=1:=by kernel_rfl
theorem agu:Tryz.prog.cellsOf 2=1:=by kernel_rfl
theorem aqw (vs:List Value) (hv:aI vs z_Rg):Tryz.prog.keyLits 6 44 vs=some (bD vs):=by
 obtain⟨x0,_,rfl,g0,hv⟩:=am hv
 obtain⟨x1,_,rfl,g1,hv⟩:=am hv
 obtain⟨x2,_,rfl,g2,hv⟩:=am hv
 obtain⟨x3,_,rfl,g3,hv⟩:=am hv
 obtain rfl:=bg hv
 simp[Program.keyLits,Tryz.underlying44,Tryz.underlying42,Tryz.underlying2,abw,abz,agu,zX,bD,g0,g1,g2,g3]
theorem aq1 (vs:List Value) (hv:aI vs z_Rg):(Value.agg vs.toArray).formed Tryz.prog 44=true:=by
 obtain⟨x0,_,rfl,g0,hv⟩:=am hv
 obtain⟨x1,_,rfl,g1,hv⟩:=am hv
 obtain⟨x2,_,rfl,g2,hv⟩:=am hv
 obtain⟨x3,_,rfl,g3,hv⟩:=am hv
 obtain rfl:=bg hv
 kernel_rfl
theorem aq4 (vs us:List Value) (hv:aI vs z_Rg) (hu:aI us z_Rg) (w:World):(Op.equal 44 (.agg vs.toArray) (.agg us.toArray)).run Tryz.prog w=.ok (eqVs vs us) w:=
 eQ (by kernel_rfl) aq1 6 aqw vs us hv hu w
def tys_XbB:List (Nat×TI):=[(2,⟨false,1,[.int .i64 (.lit 0)],[],none,some .i64,false,false,none,8,false,none,false,0⟩),
 (3,⟨false,1,[.int .i64 (.lit 0)],[],none,some .i64,false,false,none,8,false,none,false,0⟩),
 (4,⟨false,1,[.bool (.tt false)],[],none,none,false,true,none,1,false,none,false,0⟩),
 (42,⟨false,1,[.int .u64 (.lit 0)],[],none,some .u64,false,false,none,8,false,none,false,0⟩),
 (44,⟨true,4,(zN 4 2211),[(0,42),(1,42),(2,2),(3,2)],none,none,true,false,none,32,false,none,false,0⟩),
 (209,⟨true,2,[.int .u64 (.lit 0),.int .u64 (.lit 0)],[(0,42),(1,42)],none,none,false,false,none,16,false,none,false,0⟩),
 (213,⟨true,2,[.int .i64 (.lit 0),.int .i64 (.lit 0)],[(0,2),(1,2)],none,none,false,false,none,16,false,none,false,0⟩)]
theorem acl:(tys_XbB.all fun p=>ckTI Tryz.prog p.1 p.2)=true:=by kernel_rfl
theorem sO:(tys_XbB.all fun p=>!p.2.eqok||((Nat.beq p.1 44&&aY p.2.zero z_Rg)))=true:=by kernel_rfl
theorem ab0:(tys_XbB.all fun p=>!p.2.keyok)=true:=by kernel_rfl
theorem ey:∀t i,(t,i)∈tys_XbB->TIok Tryz.prog t i:=by
 intro t i h
 refine bC (cz (f:=ckTI Tryz.prog) acl h) (fun he=> ?_) (fun he=> ?_) (fun he=> ?_)
 ·have h1:=thm7.1 sO (t,i) h
  simp only[he,Bool.not_true,Bool.false_or,Bool.or_eq_true,thm0] at h1
  have hs:=h1.2
  obtain rfl:=thm1 h1.1
  exact fun vs us hv hu=>aq4 vs us (au hs hv) (au hs hu)
 ·have h1:=thm7.1 sO (t,i) h
  simp only[he,Bool.not_true,Bool.false_or,Bool.or_eq_true,thm0] at h1
  have hs:=h1.2
  obtain rfl:=thm1 h1.1
  exact apA
 ·have h1:=thm7.1 ab0 (t,i) h
  simp[he] at h1
def um (key:Nat):Sm:=⟨201,key,[.agg kRg],[.agg kRg,.one .bool],true⟩
def tT (a:Rg):List Dt:=[.z ((bnar a).ul),.z ((bnar a).uh),.z ((bnar a).sl),.z ((bnar a).sh),.z (b2i (bnok a))]
def jw:List Dt->List Dt
 | [.z x0,.z x1,.z x2,.z x3]=>tT ⟨x0,x1,x2,x3⟩
 | _=>[]
def sT_nar:Tr:=
(.call 0 [.bool] (.vs 0 4 .nil) 4
(.br (.bvar 4)
(.call 2 (kPu) (.vs 0 4 .nil) 5
(.call 3 (kPi) (.vs 0 4 .nil) 7
(.br (.eq (.bin .shr .u64 (.var 5) (.lit 63)) (.bin .shr .u64 (.var 6) (.lit 63)))
(.call 5 (kPi) (.vs 7 2 (.cons (.conv .i64 (.var 5)) (.cons (.conv .i64 (.var 6)) .nil))) 9
(.call 6 (kRg) (.vs 5 2 (.vs 9 2 .nil)) 11
(.call 0 [.bool] (.vs 11 4 .nil) 15
(.br (.bvar 15)
(.call 2 (kPu) (.vs 11 4 .nil) 16
(.call 3 (kPi) (.vs 11 4 .nil) 18
(.br (.beq (.lt (.var 18) (.lit 0)) (.lt (.var 19) (.lit 0)))
(.call 4 (kPu) (.vs 16 2 (.cons (.conv .u64 (.var 18)) (.cons (.conv .u64 (.var 19)) .nil))) 20
(.call 6 (kRg) (.vs 20 2 (.vs 18 2 .nil)) 22
(.call 0 [.bool] (.vs 22 4 .nil) 26
(.br (.bvar 26)
(.call 2 (kPu) (.vs 22 4 .nil) 27
(.call 3 (kPi) (.vs 22 4 .nil) 29
(.br (.eq (.bin .shr .u64 (.var 27) (.lit 63)) (.bin .shr .u64 (.var 28) (.lit 63)))
(.call 5 (kPi) (.vs 29 2 (.cons (.conv .i64 (.var 27)) (.cons (.conv .i64 (.var 28)) .nil))) 31
(.call 6 (kRg) (.vs 27 2 (.vs 31 2 .nil)) 33
(.call 0 [.bool] (.vs 33 4 .nil) 37
(.br (.bvar 37)
(.call 2 (kPu) (.vs 33 4 .nil) 38
(.call 3 (kPi) (.vs 33 4 .nil) 40
(.leaf (.vs 33 4 (.consb (.tt true) .nil)))))
(.call 1 (kRg) .nil 38
(.leaf (.vs 38 4 (.consb (.tt false) .nil))))))))
(.call 6 (kRg) (.vs 27 4 .nil) 31
(.call 0 [.bool] (.vs 31 4 .nil) 35
(.br (.bvar 35)
(.call 2 (kPu) (.vs 31 4 .nil) 36
(.call 3 (kPi) (.vs 31 4 .nil) 38
(.leaf (.vs 31 4 (.consb (.tt true) .nil)))))
(.call 1 (kRg) .nil 36
(.leaf (.vs 36 4 (.consb (.tt false) .nil))))))))))
(.call 1 (kRg) .nil 27
(.leaf (.vs 27 4 (.consb (.tt false) .nil))))))))
(.call 6 (kRg) (.vs 16 4 .nil) 20
(.call 0 [.bool] (.vs 20 4 .nil) 24
(.br (.bvar 24)
(.call 2 (kPu) (.vs 20 4 .nil) 25
(.call 3 (kPi) (.vs 20 4 .nil) 27
(.br (.eq (.bin .shr .u64 (.var 25) (.lit 63)) (.bin .shr .u64 (.var 26) (.lit 63)))
(.call 5 (kPi) (.vs 27 2 (.cons (.conv .i64 (.var 25)) (.cons (.conv .i64 (.var 26)) .nil))) 29
(.call 6 (kRg) (.vs 25 2 (.vs 29 2 .nil)) 31
(.call 0 [.bool] (.vs 31 4 .nil) 35
(.br (.bvar 35)
(.call 2 (kPu) (.vs 31 4 .nil) 36
(.call 3 (kPi) (.vs 31 4 .nil) 38
(.leaf (.vs 31 4 (.consb (.tt true) .nil)))))
(.call 1 (kRg) .nil 36
(.leaf (.vs 36 4 (.consb (.tt false) .nil))))))))
(.call 6 (kRg) (.vs 25 4 .nil) 29
(.call 0 [.bool] (.vs 29 4 .nil) 33
(.br (.bvar 33)
(.call 2 (kPu) (.vs 29 4 .nil) 34
(.call 3 (kPi) (.vs 29 4 .nil) 36
(.leaf (.vs 29 4 (.consb (.tt true) .nil)))))
(.call 1 (kRg) .nil 34
(.leaf (.vs 34 4 (.consb (.tt false) .nil))))))))))
(.call 1 (kRg) .nil 25
(.leaf (.vs 25 4 (.consb (.tt false) .nil))))))))))
(.call 1 (kRg) .nil 16
(.leaf (.vs 16 4 (.consb (.tt false) .nil))))))))
(.call 6 (kRg) (.vs 5 4 .nil) 9
(.call 0 [.bool] (.vs 9 4 .nil) 13
(.br (.bvar 13)
(.call 2 (kPu) (.vs 9 4 .nil) 14
(.call 3 (kPi) (.vs 9 4 .nil) 16
(.br (.beq (.lt (.var 16) (.lit 0)) (.lt (.var 17) (.lit 0)))
(.call 4 (kPu) (.vs 14 2 (.cons (.conv .u64 (.var 16)) (.cons (.conv .u64 (.var 17)) .nil))) 18
(.call 6 (kRg) (.vs 18 2 (.vs 16 2 .nil)) 20
(.call 0 [.bool] (.vs 20 4 .nil) 24
(.br (.bvar 24)
(.call 2 (kPu) (.vs 20 4 .nil) 25
(.call 3 (kPi) (.vs 20 4 .nil) 27
(.br (.eq (.bin .shr .u64 (.var 25) (.lit 63)) (.bin .shr .u64 (.var 26) (.lit 63)))
(.call 5 (kPi) (.vs 27 2 (.cons (.conv .i64 (.var 25)) (.cons (.conv .i64 (.var 26)) .nil))) 29
(.call 6 (kRg) (.vs 25 2 (.vs 29 2 .nil)) 31
(.call 0 [.bool] (.vs 31 4 .nil) 35
(.br (.bvar 35)
(.call 2 (kPu) (.vs 31 4 .nil) 36
(.call 3 (kPi) (.vs 31 4 .nil) 38
(.leaf (.vs 31 4 (.consb (.tt true) .nil)))))
(.call 1 (kRg) .nil 36
(.leaf (.vs 36 4 (.consb (.tt false) .nil))))))))
(.call 6 (kRg) (.vs 25 4 .nil) 29
(.call 0 [.bool] (.vs 29 4 .nil) 33
(.br (.bvar 33)
(.call 2 (kPu) (.vs 29 4 .nil) 34
(.call 3 (kPi) (.vs 29 4 .nil) 36
(.leaf (.vs 29 4 (.consb (.tt true) .nil)))))
(.call 1 (kRg) .nil 34
(.leaf (.vs 34 4 (.consb (.tt false) .nil))))))))))
(.call 1 (kRg) .nil 25
(.leaf (.vs 25 4 (.consb (.tt false) .nil))))))))
(.call 6 (kRg) (.vs 14 4 .nil) 18
(.call 0 [.bool] (.vs 18 4 .nil) 22
(.br (.bvar 22)
(.call 2 (kPu) (.vs 18 4 .nil) 23
(.call 3 (kPi) (.vs 18 4 .nil) 25
(.br (.eq (.bin .shr .u64 (.var 23) (.lit 63)) (.bin .shr .u64 (.var 24) (.lit 63)))
(.call 5 (kPi) (.vs 25 2 (.cons (.conv .i64 (.var 23)) (.cons (.conv .i64 (.var 24)) .nil))) 27
(.call 6 (kRg) (.vs 23 2 (.vs 27 2 .nil)) 29
(.call 0 [.bool] (.vs 29 4 .nil) 33
(.br (.bvar 33)
(.call 2 (kPu) (.vs 29 4 .nil) 34
(.call 3 (kPi) (.vs 29 4 .nil) 36
(.leaf (.vs 29 4 (.consb (.tt true) .nil)))))
(.call 1 (kRg) .nil 34
(.leaf (.vs 34 4 (.consb (.tt false) .nil))))))))
(.call 6 (kRg) (.vs 23 4 .nil) 27
(.call 0 [.bool] (.vs 27 4 .nil) 31
(.br (.bvar 31)
(.call 2 (kPu) (.vs 27 4 .nil) 32
(.call 3 (kPi) (.vs 27 4 .nil) 34
(.leaf (.vs 27 4 (.consb (.tt true) .nil)))))
(.call 1 (kRg) .nil 32
(.leaf (.vs 32 4 (.consb (.tt false) .nil))))))))))
(.call 1 (kRg) .nil 23
(.leaf (.vs 23 4 (.consb (.tt false) .nil))))))))))
(.call 1 (kRg) .nil 14
(.leaf (.vs 14 4 (.consb (.tt false) .nil))))))))))
(.call 1 (kRg) .nil 5
(.leaf (.vs 5 4 (.consb (.tt false) .nil))))))
def ajG:Spec:={F:=fun k=>match k with | 0=>cE | 1=>bv | 2=>dE | 3=>dG | 4=>fd | 5=>fi | 6=>iB | _=>fun _=>[],pre:=fun k=>match k with | _=>fun _=>True}
theorem aov:aq tys_XbB [gZ 0,dD 1,lg 2,lh 3,lO 4,lR 5,uk 6] [] [] [] 200 Tryz.f201 [.agg kRg] [.agg kRg,.one .bool] true [.int .u64,.int .u64,.int .i64,.int .i64] sT_nar:=⟨by kernel_rfl,by kernel_rfl,by kernel_rfl⟩
set_option linter.defProp false in
def ai:=And.intro Pi.eta (And.intro Pu.eta (Rg.eta))
theorem an9 (a:Rg) (ha:Rg.ok a) (U:Env) (g:ab U 0 [.int .u64,.int .u64,.int .i64,.int .i64]=[.z a.ul,.z a.uh,.z a.sl,.z a.sh]):sT_nar.asks ajG (fun U e=>e.D U=jw [.z a.ul,.z a.uh,.z a.sl,.z a.sh]) U fun _ _=>False:=by
 simp only[ab,varD,thm5,Dt.z.injEq,Dt.l.injEq,b2i_eq_iff,Nat.reduceAdd,and_true] at g
 simp only[sT_nar,ajG,kPi,kPu,kRg,cE,bv,dE,dG,fd,fi,iB,gY,lc,lf,lK,lN,tS,jw,tT,Tr.asks,ah,okDs,okD,eqs,E.I,E.B,E.L,E.R,E.D,E.vs,E.gs,E.ins,E.sv,E.tn,E.iv,E.zs,E.zr,E.sg,E.tg,E.rg,E.rgs,E.pv,Nat.reduceSub,dI,dB,dL,varD,ab,S1,Nat.reduceAdd,-eq_self,ai,g]
 have wfg:=Rg.wf_of ha
 intro e; (try simp only[e,ai,-eq_self]); clear e
 constructor<;>intro c0
 intro e; (try simp only[e,ai,-eq_self]); clear e
 intro e; (try simp only[e,ai,-eq_self]); clear e
 constructor<;>intro c1
 intro e; (try simp only[e,ai,-eq_self]); clear e
 intro e; (try simp only[e,ai,-eq_self]); clear e
 intro e; (try simp only[e,ai,-eq_self]); clear e
 constructor<;>intro c2
 intro e; (try simp only[e,ai,-eq_self]); clear e
 intro e; (try simp only[e,ai,-eq_self]); clear e
 constructor<;>intro c3
 intro e; (try simp only[e,ai,-eq_self]); clear e
 intro e; (try simp only[e,ai,-eq_self]); clear e
 intro e; (try simp only[e,ai,-eq_self]); clear e
 constructor<;>intro c4
 intro e; (try simp only[e,ai,-eq_self]); clear e
 intro e; (try simp only[e,ai,-eq_self]); clear e
 constructor<;>intro c5
 intro e; (try simp only[e,ai,-eq_self]); clear e
 intro e; (try simp only[e,ai,-eq_self]); clear e
 intro e; (try simp only[e,ai,-eq_self]); clear e
 constructor<;>intro c6
 intro e; (try simp only[e,ai,-eq_self]); clear e
 intro e; (try simp only[e,ai,-eq_self]); clear e
 ·(have s1:=gU (wfg) (by exact c1); have s2:=sF (r:=bsgn a) (by rw[s1]; exact c3); have s3:=gU (dc (dd wfg)) (by rw[s2,s1]; exact c5); have hok:bnok a=true:=(by unfold bnok; (try rw[s3,s2,s1]); (try rw[c0]); (try rw[c2]); (try rw[c4]); (try rw[c6]); (try rfl)); have hnar:bnar a=bsgn (buns (bsgn a)):=(by unfold bnar; rw[hok]; rfl); rw[hok,hnar]; rw[s3,s2,s1]; (try rfl))
 intro e; (try simp only[e,ai,-eq_self]); clear e
 ·(have s1:=gU (wfg) (by exact c1); have s2:=sF (r:=bsgn a) (by rw[s1]; exact c3); have s3:=gU (dc (dd wfg)) (by rw[s2,s1]; exact c5); have hok:bnok a=false:=(by unfold bnok; (try rw[s3,s2,s1]); (try rw[c0]); (try rw[c2]); (try rw[c4]); (try rw[c6]); (try rfl)); have hnar:bnar a=ball:=(by unfold bnar; rw[hok]; rfl); rw[hok,hnar]; (try rfl))
 intro e; (try simp only[e,ai,-eq_self]); clear e
 intro e; (try simp only[e,ai,-eq_self]); clear e
 constructor<;>intro c7
 intro e; (try simp only[e,ai,-eq_self]); clear e
 intro e; (try simp only[e,ai,-eq_self]); clear e
 ·(have s1:=gU (wfg) (by exact c1); have s2:=sF (r:=bsgn a) (by rw[s1]; exact c3); have s3:=mt (dc (dd wfg)) (by rw[s2,s1]; exact c5); have hok:bnok a=true:=(by unfold bnok; (try rw[s3,s2,s1]); (try rw[c0]); (try rw[c2]); (try rw[c4]); (try rw[c7]); (try rfl)); have hnar:bnar a=bsgn (buns (bsgn a)):=(by unfold bnar; rw[hok]; rfl); rw[hok,hnar]; rw[s3,s2,s1]; (try rfl))
 intro e; (try simp only[e,ai,-eq_self]); clear e
 ·exact absurd (c4.symm.trans c7) (by simp)
 intro e; (try simp only[e,ai,-eq_self]); clear e
 ·(have s1:=gU (wfg) (by exact c1); have s2:=sF (r:=bsgn a) (by rw[s1]; exact c3); have hok:bnok a=false:=(by unfold bnok; (try rw[s2,s1]); (try rw[c0]); (try rw[c2]); (try rw[c4]); (try rfl)); have hnar:bnar a=ball:=(by unfold bnar; rw[hok]; rfl); rw[hok,hnar]; (try rfl))
 intro e; (try simp only[e,ai,-eq_self]); clear e
 intro e; (try simp only[e,ai,-eq_self]); clear e
 constructor<;>intro c8
 intro e; (try simp only[e,ai,-eq_self]); clear e
 intro e; (try simp only[e,ai,-eq_self]); clear e
 constructor<;>intro c9
 intro e; (try simp only[e,ai,-eq_self]); clear e
 intro e; (try simp only[e,ai,-eq_self]); clear e
 intro e; (try simp only[e,ai,-eq_self]); clear e
 constructor<;>intro c10
 intro e; (try simp only[e,ai,-eq_self]); clear e
 intro e; (try simp only[e,ai,-eq_self]); clear e
 ·(have s1:=gU (wfg) (by exact c1); have s2:=aaA (r:=bsgn a) (by rw[s1]; exact c3); have s3:=gU (dc (dd wfg)) (by rw[s2,s1]; exact c9); have hok:bnok a=true:=(by unfold bnok; (try rw[s3,s2,s1]); (try rw[c0]); (try rw[c2]); (try rw[c8]); (try rw[c10]); (try rfl)); have hnar:bnar a=bsgn (buns (bsgn a)):=(by unfold bnar; rw[hok]; rfl); rw[hok,hnar]; rw[s3,s2,s1]; (try rfl))
 intro e; (try simp only[e,ai,-eq_self]); clear e
 ·(have s1:=gU (wfg) (by exact c1); have s2:=aaA (r:=bsgn a) (by rw[s1]; exact c3); have s3:=gU (dc (dd wfg)) (by rw[s2,s1]; exact c9); have hok:bnok a=false:=(by unfold bnok; (try rw[s3,s2,s1]); (try rw[c0]); (try rw[c2]); (try rw[c8]); (try rw[c10]); (try rfl)); have hnar:bnar a=ball:=(by unfold bnar; rw[hok]; rfl); rw[hok,hnar]; (try rfl))
 intro e; (try simp only[e,ai,-eq_self]); clear e
 intro e; (try simp only[e,ai,-eq_self]); clear e
 constructor<;>intro c11
 intro e; (try simp only[e,ai,-eq_self]); clear e
 intro e; (try simp only[e,ai,-eq_self]); clear e
 ·(have s1:=gU (wfg) (by exact c1); have s2:=aaA (r:=bsgn a) (by rw[s1]; exact c3); have s3:=mt (dc (dd wfg)) (by rw[s2,s1]; exact c9); have hok:bnok a=true:=(by unfold bnok; (try rw[s3,s2,s1]); (try rw[c0]); (try rw[c2]); (try rw[c8]); (try rw[c11]); (try rfl)); have hnar:bnar a=bsgn (buns (bsgn a)):=(by unfold bnar; rw[hok]; rfl); rw[hok,hnar]; rw[s3,s2,s1]; (try rfl))
 intro e; (try simp only[e,ai,-eq_self]); clear e
 ·exact absurd (c8.symm.trans c11) (by simp)
 intro e; (try simp only[e,ai,-eq_self]); clear e
 ·exact absurd (c2.symm.trans c8) (by simp)
 intro e; (try simp only[e,ai,-eq_self]); clear e
 ·(have s1:=gU (wfg) (by exact c1); have hok:bnok a=false:=(by unfold bnok; (try rw[s1]); (try rw[c0]); (try rw[c2]); (try rfl)); have hnar:bnar a=ball:=(by unfold bnar; rw[hok]; rfl); rw[hok,hnar]; (try rfl))
 intro e; (try simp only[e,ai,-eq_self]); clear e
 intro e; (try simp only[e,ai,-eq_self]); clear e
 constructor<;>intro c12
 intro e; (try simp only[e,ai,-eq_self]); clear e
 intro e; (try simp only[e,ai,-eq_self]); clear e
 constructor<;>intro c13
 intro e; (try simp only[e,ai,-eq_self]); clear e
 intro e; (try simp only[e,ai,-eq_self]); clear e
 intro e; (try simp only[e,ai,-eq_self]); clear e
 constructor<;>intro c14
 intro e; (try simp only[e,ai,-eq_self]); clear e
 intro e; (try simp only[e,ai,-eq_self]); clear e
 constructor<;>intro c15
 intro e; (try simp only[e,ai,-eq_self]); clear e
 intro e; (try simp only[e,ai,-eq_self]); clear e
 intro e; (try simp only[e,ai,-eq_self]); clear e
 constructor<;>intro c16
 intro e; (try simp only[e,ai,-eq_self]); clear e
 intro e; (try simp only[e,ai,-eq_self]); clear e
 ·(have s1:=mt (wfg) (by exact c1); have s2:=sF (r:=bsgn a) (by rw[s1]; exact c13); have s3:=gU (dc (dd wfg)) (by rw[s2,s1]; exact c15); have hok:bnok a=true:=(by unfold bnok; (try rw[s3,s2,s1]); (try rw[c0]); (try rw[c12]); (try rw[c14]); (try rw[c16]); (try rfl)); have hnar:bnar a=bsgn (buns (bsgn a)):=(by unfold bnar; rw[hok]; rfl); rw[hok,hnar]; rw[s3,s2,s1]; (try rfl))
 intro e; (try simp only[e,ai,-eq_self]); clear e
 ·(have s1:=mt (wfg) (by exact c1); have s2:=sF (r:=bsgn a) (by rw[s1]; exact c13); have s3:=gU (dc (dd wfg)) (by rw[s2,s1]; exact c15); have hok:bnok a=false:=(by unfold bnok; (try rw[s3,s2,s1]); (try rw[c0]); (try rw[c12]); (try rw[c14]); (try rw[c16]); (try rfl)); have hnar:bnar a=ball:=(by unfold bnar; rw[hok]; rfl); rw[hok,hnar]; (try rfl))
 intro e; (try simp only[e,ai,-eq_self]); clear e
 intro e; (try simp only[e,ai,-eq_self]); clear e
 constructor<;>intro c17
 intro e; (try simp only[e,ai,-eq_self]); clear e
 intro e; (try simp only[e,ai,-eq_self]); clear e
 ·(have s1:=mt (wfg) (by exact c1); have s2:=sF (r:=bsgn a) (by rw[s1]; exact c13); have s3:=mt (dc (dd wfg)) (by rw[s2,s1]; exact c15); have hok:bnok a=true:=(by unfold bnok; (try rw[s3,s2,s1]); (try rw[c0]); (try rw[c12]); (try rw[c14]); (try rw[c17]); (try rfl)); have hnar:bnar a=bsgn (buns (bsgn a)):=(by unfold bnar; rw[hok]; rfl); rw[hok,hnar]; rw[s3,s2,s1]; (try rfl))
 intro e; (try simp only[e,ai,-eq_self]); clear e
 ·exact absurd (c14.symm.trans c17) (by simp)
 intro e; (try simp only[e,ai,-eq_self]); clear e
 ·(have s1:=mt (wfg) (by exact c1); have s2:=sF (r:=bsgn a) (by rw[s1]; exact c13); have hok:bnok a=false:=(by unfold bnok; (try rw[s2,s1]); (try rw[c0]); (try rw[c12]); (try rw[c14]); (try rfl)); have hnar:bnar a=ball:=(by unfold bnar; rw[hok]; rfl); rw[hok,hnar]; (try rfl))
 intro e; (try simp only[e,ai,-eq_self]); clear e
 intro e; (try simp only[e,ai,-eq_self]); clear e
 constructor<;>intro c18
 intro e; (try simp only[e,ai,-eq_self]); clear e
 intro e; (try simp only[e,ai,-eq_self]); clear e
 constructor<;>intro c19
 intro e; (try simp only[e,ai,-eq_self]); clear e
 intro e; (try simp only[e,ai,-eq_self]); clear e
 intro e; (try simp only[e,ai,-eq_self]); clear e
 constructor<;>intro c20
 intro e; (try simp only[e,ai,-eq_self]); clear e
 intro e; (try simp only[e,ai,-eq_self]); clear e
 ·(have s1:=mt (wfg) (by exact c1); have s2:=aaA (r:=bsgn a) (by rw[s1]; exact c13); have s3:=gU (dc (dd wfg)) (by rw[s2,s1]; exact c19); have hok:bnok a=true:=(by unfold bnok; (try rw[s3,s2,s1]); (try rw[c0]); (try rw[c12]); (try rw[c18]); (try rw[c20]); (try rfl)); have hnar:bnar a=bsgn (buns (bsgn a)):=(by unfold bnar; rw[hok]; rfl); rw[hok,hnar]; rw[s3,s2,s1]; (try rfl))
 intro e; (try simp only[e,ai,-eq_self]); clear e
 ·(have s1:=mt (wfg) (by exact c1); have s2:=aaA (r:=bsgn a) (by rw[s1]; exact c13); have s3:=gU (dc (dd wfg)) (by rw[s2,s1]; exact c19); have hok:bnok a=false:=(by unfold bnok; (try rw[s3,s2,s1]); (try rw[c0]); (try rw[c12]); (try rw[c18]); (try rw[c20]); (try rfl)); have hnar:bnar a=ball:=(by unfold bnar; rw[hok]; rfl); rw[hok,hnar]; (try rfl))
 intro e; (try simp only[e,ai,-eq_self]); clear e
 intro e; (try simp only[e,ai,-eq_self]); clear e
 constructor<;>intro c21
 intro e; (try simp only[e,ai,-eq_self]); clear e
 intro e; (try simp only[e,ai,-eq_self]); clear e
 ·(have s1:=mt (wfg) (by exact c1); have s2:=aaA (r:=bsgn a) (by rw[s1]; exact c13); have s3:=mt (dc (dd wfg)) (by rw[s2,s1]; exact c19); have hok:bnok a=true:=(by unfold bnok; (try rw[s3,s2,s1]); (try rw[c0]); (try rw[c12]); (try rw[c18]); (try rw[c21]); (try rfl)); have hnar:bnar a=bsgn (buns (bsgn a)):=(by unfold bnar; rw[hok]; rfl); rw[hok,hnar]; rw[s3,s2,s1]; (try rfl))
 intro e; (try simp only[e,ai,-eq_self]); clear e
 ·exact absurd (c18.symm.trans c21) (by simp)
 intro e; (try simp only[e,ai,-eq_self]); clear e
 ·exact absurd (c12.symm.trans c18) (by simp)
 intro e; (try simp only[e,ai,-eq_self]); clear e
 ·exact absurd (c0.symm.trans c12) (by simp)
 intro e; (try simp only[e,ai,-eq_self]); clear e
 ·(have hok:bnok a=false:=(by unfold bnok; (try rw[hok]); (try rw[c0]); (try rfl)); have hnar:bnar a=ball:=(by unfold bnar; rw[hok]; rfl); rw[hok,hnar]; (try rfl))
theorem aeZ {sp:Spec} {key:Nat} (hF:sp.F key=jw) (hP:sp.pre key=fun _=>True:=by rfl):SmOk Tryz.prog sp (um key):=
 av (s:=um key) hF hP (by kernel_rfl) ey (smc (lj rfl) (smc (eD rfl) (smc (pd rfl) (smc (pf rfl) (smc (zg rfl) (smc (zj rfl) (smc (aaS rfl) sm0))))))) Tryz.func201 fn0 aov (.inl rfl) (fun x0 gx0 x1 gx1 x2 gx2 x3 gx3 hp U g=>an9 ⟨x0,x1,x2,x3⟩ ⟨gx0,gx1,gx2,gx3⟩ U g)
def wM (key:Nat):Sm:=⟨240,key,[.one (.int .i64),.one (.int .i64)],[.one (.int .i64),.one .bool],true⟩
def wh (a:Int) (b:Int):List Dt:=[.z (IntKind.i64.wrap (a+b)),.z (b2i (decide (-9223372036854775808<=a+b/\a+b<=9223372036854775807)))]
def nD:List Dt->List Dt
 | [.z x0,.z x1]=>wh x0 x1
 | _=>[]
def sT_plus:Tr:=
(.leaf (.cons (.bin .add .i64 (.var 0) (.var 1)) (.consb (.not (.lt (.bin .and .i64 (.bin .xor .i64 (.var 0) (.bin .add .i64 (.var 0) (.var 1))) (.bin .xor .i64 (.var 1) (.bin .add .i64 (.var 0) (.var 1)))) (.lit 0))) .nil)))
def aeg:Spec:={F:=fun k=>match k with | _=>fun _=>[],pre:=fun k=>match k with | _=>fun _=>True}
theorem alT:aq tys_XbB [] [] [] [] 200 Tryz.f240 [.one (.int .i64),.one (.int .i64)] [.one (.int .i64),.one .bool] true [.int .i64,.int .i64] sT_plus:=⟨by kernel_rfl,by kernel_rfl,by kernel_rfl⟩
theorem alb (a:Int) (ha:inK .i64 a=true) (b:Int) (hb:inK .i64 b=true) (U:Env) (g:ab U 0 [.int .i64,.int .i64]=[.z a,.z b]):sT_plus.asks aeg (fun U e=>e.D U=nD [.z a,.z b]) U fun _ _=>False:=by
 simp only[ab,varD,thm5,Dt.z.injEq,Dt.l.injEq,b2i_eq_iff,Nat.reduceAdd,and_true] at g
 simp only[sT_plus,aeg,nD,wh,Tr.asks,ah,okDs,okD,eqs,E.I,E.B,E.L,E.R,E.D,E.vs,E.gs,E.ins,E.sv,E.tn,E.iv,E.zs,E.zr,E.sg,E.tg,E.rg,E.rgs,E.pv,Nat.reduceSub,dI,dB,dL,varD,ab,S1,Nat.reduceAdd,-eq_self,g]
 ·(have ga:=fu ha; have gb:=fu hb; simp only[opI,<-bY,<-afo ga.1 ga.2 gb.1 gb.2,Go.IntWalk.i64_left])
theorem amr {sp:Spec} {key:Nat} (hF:sp.F key=nD) (hP:sp.pre key=fun _=>True:=by rfl):SmOk Tryz.prog sp (wM key):=
 av (s:=wM key) hF hP (by kernel_rfl) ey (sm0) Tryz.func240 fn0 alT (.inl rfl) (fun x0 gx0 x1 gx1 hp U g=>alb x0 gx0 x1 gx1 U g)
def rn (key:Nat):Sm:=⟨241,key,[.one (.int .i64),.one (.int .i64)],[.one (.int .i64),.one .bool],true⟩
def qE (a:Int) (b:Int):List Dt:=[.z (IntKind.i64.wrap (a-b)),.z (b2i (decide (-9223372036854775808<=a-b/\a-b<=9223372036854775807)))]
def jx:List Dt->List Dt
 | [.z x0,.z x1]=>qE x0 x1
 | _=>[]
def sT_minus:Tr:=
(.leaf (.cons (.bin .sub .i64 (.var 0) (.var 1)) (.consb (.not (.lt (.bin .and .i64 (.bin .xor .i64 (.var 0) (.var 1)) (.bin .xor .i64 (.var 0) (.bin .sub .i64 (.var 0) (.var 1)))) (.lit 0))) .nil)))
def yS:Spec:={F:=fun k=>match k with | _=>fun _=>[],pre:=fun k=>match k with | _=>fun _=>True}
theorem ah7:aq tys_XbB [] [] [] [] 200 Tryz.f241 [.one (.int .i64),.one (.int .i64)] [.one (.int .i64),.one .bool] true [.int .i64,.int .i64] sT_minus:=⟨by kernel_rfl,by kernel_rfl,by kernel_rfl⟩
theorem ahD (a:Int) (ha:inK .i64 a=true) (b:Int) (hb:inK .i64 b=true) (U:Env) (g:ab U 0 [.int .i64,.int .i64]=[.z a,.z b]):sT_minus.asks yS (fun U e=>e.D U=jx [.z a,.z b]) U fun _ _=>False:=by
 simp only[ab,varD,thm5,Dt.z.injEq,Dt.l.injEq,b2i_eq_iff,Nat.reduceAdd,and_true] at g
 simp only[sT_minus,yS,jx,qE,Tr.asks,ah,okDs,okD,eqs,E.I,E.B,E.L,E.R,E.D,E.vs,E.gs,E.ins,E.sv,E.tn,E.iv,E.zs,E.zr,E.sg,E.tg,E.rg,E.rgs,E.pv,Nat.reduceSub,dI,dB,dL,varD,ab,S1,Nat.reduceAdd,-eq_self,g]
 ·(have ga:=fu ha; have gb:=fu hb; simp only[opI,<-bY,<-aa4 ga.1 ga.2 gb.1 gb.2,Go.IntWalk.i64_left])
theorem aiw {sp:Spec} {key:Nat} (hF:sp.F key=jx) (hP:sp.pre key=fun _=>True:=by rfl):SmOk Tryz.prog sp (rn key):=
 av (s:=rn key) hF hP (by kernel_rfl) ey (sm0) Tryz.func241 fn0 ah7 (.inl rfl) (fun x0 gx0 x1 gx1 hp U g=>ahD x0 gx0 x1 gx1 U g)
def rm (key:Nat):Sm:=⟨225,key,[.agg kRg],[.agg kRg],false⟩
def qD (a:Rg):List Dt:=[.z ((bnar a).ul),.z ((bnar a).uh),.z ((bnar a).sl),.z ((bnar a).sh)]
def iD:List Dt->List Dt
 | [.z x0,.z x1,.z x2,.z x3]=>qD ⟨x0,x1,x2,x3⟩
 | _=>[]
def sT_nard:Tr:=
(.call 0 (kRg++[.bool]) (.vs 0 4 .nil) 4
(.leaf (.vs 4 4 .nil)))
def aei:Spec:={F:=fun k=>match k with | 0=>jw | _=>fun _=>[],pre:=fun k=>match k with | _=>fun _=>True}
theorem alV:aq tys_XbB [um 0] [] [] [] 200 Tryz.f225 [.agg kRg] [.agg kRg] false [.int .u64,.int .u64,.int .i64,.int .i64] sT_nard:=⟨by kernel_rfl,by kernel_rfl,by kernel_rfl⟩
theorem ald (a:Rg) (ha:Rg.ok a) (U:Env) (g:ab U 0 [.int .u64,.int .u64,.int .i64,.int .i64]=[.z a.ul,.z a.uh,.z a.sl,.z a.sh]):sT_nard.asks aei (fun U e=>e.D U=iD [.z a.ul,.z a.uh,.z a.sl,.z a.sh]) U fun _ _=>False:=by
 simp only[ab,varD,thm5,Dt.z.injEq,Dt.l.injEq,b2i_eq_iff,Nat.reduceAdd,and_true] at g
 simp only[sT_nard,aei,kRg,jw,tT,iD,qD,Tr.asks,ah,okDs,okD,eqs,E.I,E.B,E.L,E.R,E.D,E.vs,E.gs,E.ins,E.sv,E.tn,E.iv,E.zs,E.zr,E.sg,E.tg,E.rg,E.rgs,E.pv,Nat.reduceSub,dI,dB,dL,varD,ab,S1,Nat.reduceAdd,-eq_self,ai,g]
 intro e; (try simp only[e,ai,-eq_self]); clear e
 ·rfl
theorem aeY {sp:Spec} {key:Nat} (hF:sp.F key=iD) (hP:sp.pre key=fun _=>True:=by rfl):SmOk Tryz.prog sp (rm key):=
 av (s:=rm key) hF hP (by kernel_rfl) ey (smc (aeZ rfl) sm0) Tryz.func225 fn0 alV (.inl rfl) (fun x0 gx0 x1 gx1 x2 gx2 x3 gx3 hp U g=>ald ⟨x0,x1,x2,x3⟩ ⟨gx0,gx1,gx2,gx3⟩ U g)
def rp (key:Nat):Sm:=⟨193,key,[.agg kRg,.agg kRg],[.agg kRg,.one .bool],true⟩
def qF (a:Rg) (b:Rg):List Dt:=[.z ((kT a b).ul),.z ((kT a b).uh),.z ((kT a b).sl),.z ((kT a b).sh),.z (b2i (ig a b))]
def iE:List Dt->List Dt
 | [.z x0,.z x1,.z x2,.z x3,.z x4,.z x5,.z x6,.z x7]=>qF ⟨x0,x1,x2,x3⟩ ⟨x4,x5,x6,x7⟩
 | _=>[]
def sT_meet:Tr:=
(.call 0 [.bool] (.vs 0 4 .nil) 8
(.br (.bvar 8)
(.call 0 [.bool] (.vs 4 4 .nil) 9
(.br (.bvar 9)
(.call 2 (kPu) (.vs 0 4 .nil) 10
(.call 2 (kPu) (.vs 4 4 .nil) 12
(.call 4 (kPu) (.vs 10 4 .nil) 14
(.call 3 (kPi) (.vs 0 4 .nil) 16
(.call 3 (kPi) (.vs 4 4 .nil) 18
(.call 5 (kPi) (.vs 16 4 .nil) 20
(.call 6 (kRg) (.vs 14 2 (.vs 20 2 .nil)) 22
(.call 7 (kRg++[.bool]) (.vs 22 4 .nil) 26
(.leaf (.vs 26 4 (.consb (.bvar 30) .nil)))))))))))
(.call 1 (kRg) .nil 10
(.leaf (.vs 10 4 (.consb (.tt false) .nil))))))
(.call 1 (kRg) .nil 9
(.leaf (.vs 9 4 (.consb (.tt false) .nil))))))
def aej:Spec:={F:=fun k=>match k with | 0=>cE | 1=>bv | 2=>dE | 3=>dG | 4=>fd | 5=>fi | 6=>iB | 7=>jw | _=>fun _=>[],pre:=fun k=>match k with | _=>fun _=>True}
theorem alW:aq tys_XbB [gZ 0,dD 1,lg 2,lh 3,lO 4,lR 5,uk 6,um 7] [] [] [] 200 Tryz.f193 [.agg kRg,.agg kRg] [.agg kRg,.one .bool] true [.int .u64,.int .u64,.int .i64,.int .i64,.int .u64,.int .u64,.int .i64,.int .i64] sT_meet:=⟨by kernel_rfl,by kernel_rfl,by kernel_rfl⟩
theorem ale (a:Rg) (ha:Rg.ok a) (b:Rg) (hb:Rg.ok b) (U:Env) (g:ab U 0 [.int .u64,.int .u64,.int .i64,.int .i64,.int .u64,.int .u64,.int .i64,.int .i64]=[.z a.ul,.z a.uh,.z a.sl,.z a.sh,.z b.ul,.z b.uh,.z b.sl,.z b.sh]):sT_meet.asks aej (fun U e=>e.D U=iE [.z a.ul,.z a.uh,.z a.sl,.z a.sh,.z b.ul,.z b.uh,.z b.sl,.z b.sh]) U fun _ _=>False:=by
 simp only[ab,varD,thm5,Dt.z.injEq,Dt.l.injEq,b2i_eq_iff,Nat.reduceAdd,and_true] at g
 simp only[sT_meet,aej,kPi,kPu,kRg,cE,bv,dE,dG,fd,fi,iB,jw,gY,lc,lf,lK,lN,tS,tT,iE,qF,Tr.asks,ah,okDs,okD,eqs,E.I,E.B,E.L,E.R,E.D,E.vs,E.gs,E.ins,E.sv,E.tn,E.iv,E.zs,E.zr,E.sg,E.tg,E.rg,E.rgs,E.pv,Nat.reduceSub,dI,dB,dL,varD,ab,S1,Nat.reduceAdd,-eq_self,ai,g]
 intro e; (try simp only[e,ai,-eq_self]); clear e
 constructor<;>intro c0
 intro e; (try simp only[e,ai,-eq_self]); clear e
 constructor<;>intro c1
 intro e; (try simp only[e,ai,-eq_self]); clear e
 intro e; (try simp only[e,ai,-eq_self]); clear e
 intro e; (try simp only[e,ai,-eq_self]); clear e
 intro e; (try simp only[e,ai,-eq_self]); clear e
 intro e; (try simp only[e,ai,-eq_self]); clear e
 intro e; (try simp only[e,ai,-eq_self]); clear e
 intro e; (try simp only[e,ai,-eq_self]); clear e
 intro e; (try simp only[e,ai,-eq_self]); clear e
 ·(unfold kT ig; simp_all [vC,xR])
 intro e; (try simp only[e,ai,-eq_self]); clear e
 ·(unfold kT ig; simp_all [vC,xR])
 intro e; (try simp only[e,ai,-eq_self]); clear e
 ·(unfold kT ig; simp_all [vC,xR])
theorem ae0 {sp:Spec} {key:Nat} (hF:sp.F key=iE) (hP:sp.pre key=fun _=>True:=by rfl):SmOk Tryz.prog sp (rp key):=
 av (s:=rp key) hF hP (by kernel_rfl) ey (smc (lj rfl) (smc (eD rfl) (smc (pd rfl) (smc (pf rfl) (smc (zg rfl) (smc (zj rfl) (smc (aaS rfl) (smc (aeZ rfl) sm0)))))))) Tryz.func193 fn0 alW (.inl rfl) (fun x0 gx0 x1 gx1 x2 gx2 x3 gx3 x4 gx4 x5 gx5 x6 gx6 x7 gx7 hp U g=>ale ⟨x0,x1,x2,x3⟩ ⟨gx0,gx1,gx2,gx3⟩ ⟨x4,x5,x6,x7⟩ ⟨gx4,gx5,gx6,gx7⟩ U g)
def ze (key:Nat):Sm:=⟨234,key,[.agg kRg],[.agg kRg],false⟩
def yx (a:Rg):List Dt:=[.z ((blow a).ul),.z ((blow a).uh),.z ((blow a).sl),.z ((blow a).sh)]
def nE:List Dt->List Dt
 | [.z x0,.z x1,.z x2,.z x3]=>yx ⟨x0,x1,x2,x3⟩
 | _=>[]
def sT_low:Tr:=
(.call 0 [.bool] (.vs 0 4 .nil) 4
(.br (.bvar 4)
(.br (.lt (.lit 4294967295) (.var 1))
(.call 1 (kRg) .nil 5
(.call 2 (kRg) (.cons (.var 5) (.cons (.lit 4294967295) (.vs 7 2 .nil))) 9
(.leaf (.vs 9 4 .nil))))
(.leaf (.vs 0 4 .nil)))
(.call 1 (kRg) .nil 5
(.call 2 (kRg) (.cons (.var 5) (.cons (.lit 4294967295) (.vs 7 2 .nil))) 9
(.leaf (.vs 9 4 .nil))))))
def ajI:Spec:={F:=fun k=>match k with | 0=>cE | 1=>bv | 2=>iD | _=>fun _=>[],pre:=fun k=>match k with | _=>fun _=>True}
theorem aox:aq tys_XbB [gZ 0,dD 1,rm 2] [] [] [] 200 Tryz.f234 [.agg kRg] [.agg kRg] false [.int .u64,.int .u64,.int .i64,.int .i64] sT_low:=⟨by kernel_rfl,by kernel_rfl,by kernel_rfl⟩
theorem aob (a:Rg) (ha:Rg.ok a) (U:Env) (g:ab U 0 [.int .u64,.int .u64,.int .i64,.int .i64]=[.z a.ul,.z a.uh,.z a.sl,.z a.sh]):sT_low.asks ajI (fun U e=>e.D U=nE [.z a.ul,.z a.uh,.z a.sl,.z a.sh]) U fun _ _=>False:=by
 simp only[ab,varD,thm5,Dt.z.injEq,Dt.l.injEq,b2i_eq_iff,Nat.reduceAdd,and_true] at g
 simp only[sT_low,ajI,kRg,cE,bv,iD,gY,qD,nE,yx,Tr.asks,ah,okDs,okD,eqs,E.I,E.B,E.L,E.R,E.D,E.vs,E.gs,E.ins,E.sv,E.tn,E.iv,E.zs,E.zr,E.sg,E.tg,E.rg,E.rgs,E.pv,Nat.reduceSub,dI,dB,dL,varD,ab,S1,Nat.reduceAdd,-eq_self,ai,g]
 intro e; (try simp only[e,ai,-eq_self]); clear e
 constructor<;>intro c0
 constructor<;>intro c1
 intro e; (try simp only[e,ai,-eq_self]); clear e
 intro e; (try simp only[e,ai,-eq_self]); clear e
 ·(rw[show blow a=bnar (bu 0 4294967295) from if_neg (fun q=>absurd (thm3 c1) (Int.not_lt.2 q.2))]; try rfl)
 ·(rw[show blow a=a from if_pos ⟨c0,Int.not_lt.1 (thm2 c1)⟩]; try rfl)
 intro e; (try simp only[e,ai,-eq_self]); clear e
 intro e; (try simp only[e,ai,-eq_self]); clear e
 ·(rw[show blow a=bnar (bu 0 4294967295) from if_neg (fun q=>by rw[c0] at q; exact absurd q.1 (by simp))]; try rfl)
theorem ajS {sp:Spec} {key:Nat} (hF:sp.F key=nE) (hP:sp.pre key=fun _=>True:=by rfl):SmOk Tryz.prog sp (ze key):=
 av (s:=ze key) hF hP (by kernel_rfl) ey (smc (lj rfl) (smc (eD rfl) (smc (aeY rfl) sm0))) Tryz.func234 fn0 aox (.inl rfl) (fun x0 gx0 x1 gx1 x2 gx2 x3 gx3 hp U g=>aob ⟨x0,x1,x2,x3⟩ ⟨gx0,gx1,gx2,gx3⟩ U g)
end Go.Proofs.YtfkhblmeioiciaaGreatDoor
