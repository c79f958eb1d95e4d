import Derived.Test.YtfkhblmeioiciaaGreatDoorSdA
import Derived.Test.YtfkhblmeioiciaaGreatDoorKnQ
import Derived.Test.YtfkhblmeioiciaaGreatDoorSyZe
import Derived.Test.YtfkhblmeioiciaaGreatDoorVrL
set_option maxRecDepth 100000
set_option maxHeartbeats 8000000
set_option linter.defProp false
set_option linter.unusedVariables false
set_option linter.unusedSimpArgs false
namespace Go.Proofs.YtfkhblmeioiciaaGreatDoor
open Go Go.RowKit
def sbit (set i:Int):Bool:=opI .and .i64 (opI .shr .i64 set i) 1==1
structure Snap where
 r0:Int
 r1:Int
 r2:Int
 r3:Int
 r4:Int
 r5:Int
 r6:Int
 r7:Int
 r8:Int
 r9:Int
 r10:Int
 set:Int
 f0:Int
 f1:Int
 f2:Int
 f3:Int
 f4:Int
 f5:Int
 f6:Int
 f7:Int
 f8:Int
 f9:Int
 f10:Int
 f11:Int
 f12:Int
 f13:Int
 f14:Int
 f15:Int
 f16:Int
 f17:Int
 f18:Int
 f19:Int
 f20:Int
 f21:Int
 f22:Int
 f23:Int
 f24:Int
 f25:Int
 f26:Int
 f27:Int
 f28:Int
 f29:Int
 f30:Int
 f31:Int
 f32:Int
 f33:Int
 f34:Int
 f35:Int
 f36:Int
 f37:Int
 f38:Int
 f39:Int
 f40:Int
 f41:Int
 f42:Int
 f43:Int
 f44:Int
 f45:Int
 f46:Int
 f47:Int
 f48:Int
 f49:Int
 f50:Int
 f51:Int
 f52:Int
 f53:Int
 f54:Int
 f55:Int
 f56:Int
 f57:Int
 f58:Int
 f59:Int
 f60:Int
 f61:Int
 f62:Int
 f63:Int
def rok (set i:Int) (t:Ty) (v:Int):Bool:=(t.k==0||sbit set i)&&arB t v
def smac (s:Sta) (lo hi size:Int):Bool:=(size==1||(size==2||(size==4||size==8)))&&(decide (0<=lo)&&(decide (lo<=hi)&&(decide (hi<=opI .sub .i64 64 size)&&smay s)))
def sone (lo hi size:Int):Bool:=(size==8)&&((lo==hi)&&(opI .rem .i64 lo 8==0))
def apg (s:Sta) (n:Int):Ty:=if n=0 then s.s0 else if n=1 then s.s1 else if n=2 then s.s2 else if n=3 then s.s3 else if n=4 then s.s4 else if n=5 then s.s5 else if n=6 then s.s6 else s.s7
def qA (s:Sta) (lo hi size:Int):Ty:=if smac s lo hi size=true then(if sone lo hi size=true then apg s (opI .quo .i64 lo 8) else ty 1 (vbyt size) 0 0) else tnil
def qB (s:Sta) (lo hi size:Int):Int:=if smac s lo hi size=true then 0 else 2
def sput (s:Sta) (p:Int->Bool) (t:Ty):Sta:={s with s0:=if p 0=true then t else s.s0,s1:=if p 1=true then t else s.s1,s2:=if p 2=true then t else s.s2,s3:=if p 3=true then t else s.s3,s4:=if p 4=true then t else s.s4,s5:=if p 5=true then t else s.s5,s6:=if p 6=true then t else s.s6,s7:=if p 7=true then t else s.s7}
def jr (s:Sta) (lo hi size:Int) (t:Ty):Sta:=
 if smac s lo hi size=true/\tset t=true then(if sone lo hi size=true then sput s (fun k=>k==opI .quo .i64 lo 8) t else sput s (fun k=>decide (lo<8*k+8)&&decide (8*k<hi+size)) fV) else snil
def qp (s:Sta) (lo hi size:Int) (t:Ty):Int:=if smac s lo hi size=true/\tset t=true then 0 else 2
theorem qy {s:Sta} {lo hi size:Int} (h:smac s lo hi size=true):smay s=true/\0<=lo/\lo<=hi/\hi+size<=64/\(size=1\/size=2\/size=4\/size=8):=by
 unfold smac at h
 simp only[thm0,bG,dl,bl] at h
 obtain⟨h1,h2,h3,h4,h5⟩:=h
 have e:opI .sub .i64 64 size=64-size:=by show IntKind.i64.wrap (64-size)=_;rw[aR];omega
 rw[e] at h4
 exact⟨h5,h2,h3,by omega,by omega⟩
theorem quo8 {i:Int} (h0:0<=i) (h1:i<=64):opI .quo .i64 i 8=i / 8:=by
 show IntKind.i64.wrap (i.tdiv 8)=_
 rw[Int.tdiv_eq_ediv_of_nonneg h0,aR];omega
theorem o6 {s:Sta} {lo hi size:Int} (h:smac s lo hi size=true):opI .quo .i64 (opI .sub .i64 (opI .add .i64 hi size) 1) 8=(hi+size-1) / 8/\opI .add .i64 hi size=hi+size:=by
 obtain⟨-,h1,h2,h3,h4⟩:=qy h
 have e1:opI .add .i64 hi size=hi+size:=by show IntKind.i64.wrap (hi+size)=_;rw[aR];omega
 have e2:opI .sub .i64 (hi+size) 1=hi+size-1:=by show IntKind.i64.wrap (hi+size-1)=_;rw[aR];omega
 rw[e1,e2]
 exact⟨quo8 (by omega) (by omega),rfl⟩
theorem yM {s:Sta} {lo hi size:Int} (h:smac s lo hi size=false):qA s lo hi size=tnil/\qB s lo hi size=2:=by unfold qA qB;rw[h];exact⟨rfl,rfl⟩
theorem pk {s:Sta} {lo hi size:Int} (h:smac s lo hi size=true) (h1:sone lo hi size=false):qA s lo hi size=ty 1 (vbyt size) 0 0/\qB s lo hi size=0:=by unfold qA qB;rw[h,h1];exact⟨rfl,rfl⟩
theorem bi {s:Sta} {lo hi size:Int} (h:smac s lo hi size=true) (h1:sone lo hi size=true):qA s lo hi size=apg s (opI .quo .i64 lo 8)/\qB s lo hi size=0:=by unfold qA qB;rw[h,h1];exact⟨rfl,rfl⟩
theorem al4 {s:Sta} {lo hi size:Int} (h:smac s lo hi size=true):opI .quo .i64 lo 8=lo / 8/\0<=lo / 8/\lo / 8<=7:=by
 obtain⟨-,h1,h2,h3,h4⟩:=qy h
 exact⟨quo8 (by omega) (by omega),by omega,by omega⟩
theorem afR {s:Sta} {lo hi size:Int} {n:Int} (h:smac s lo hi size=true) (hn:n=opI .quo .i64 lo 8) (h0:(n==0)=false) (h1:(n==1)=false) (h2:(n==2)=false) (h3:(n==3)=false) (h4:(n==4)=false) (h5:(n==5)=false) (h6:(n==6)=false) (h7:(n==7)=false):False:=by
 obtain⟨e,a,b⟩:=al4 h
 rw[e] at hn
 simp only[beq_eq_false_iff_ne] at h0 h1 h2 h3 h4 h5 h6 h7
 omega
theorem qv {s:Sta} {lo hi size:Int} (h:decide (lo<0)=true):smac s lo hi size=false:=by
 have:=thm3 h
 unfold smac;rw[show decide (0<=lo)=false from ij (by omega)];simp only[Bool.false_and,Bool.and_false]
theorem qx {s:Sta} {lo hi size:Int} (h:decide (hi<lo)=true):smac s lo hi size=false:=by
 have:=thm3 h
 unfold smac;rw[show decide (lo<=hi)=false from ij (by omega)];simp only[Bool.false_and,Bool.and_false]
theorem lW {s:Sta} {lo hi size:Int} (h:decide (opI .sub .i64 64 size<hi)=true):smac s lo hi size=false:=by
 have:=thm3 h
 unfold smac;rw[show decide (hi<=opI .sub .i64 64 size)=false from ij (by omega)];simp only[Bool.false_and,Bool.and_false]
theorem adv {s:Sta} {lo hi size:Int} (h1:(size==1)=false) (h2:(size==2)=false) (h3:(size==4)=false) (h4:(size==8)=false):smac s lo hi size=false:=by
 unfold smac;rw[h1,h2,h3,h4];rfl
theorem qw {s:Sta} {lo hi size:Int} (hz:(size==1)=true\/(size==2)=true\/(size==4)=true\/(size==8)=true) (h1:decide (lo<0)=false) (h2:decide (hi<lo)=false):smac s lo hi size=(!decide (opI .sub .i64 64 size<hi)&&smay s):=by
 have:=thm2 h1
 have:=thm2 h2
 unfold smac
 rw[show(size==1||(size==2||(size==4||size==8)))=true from by rcases hz with h | h | h | h<;>simp[h],show decide (0<=lo)=true from fQ (by omega),show decide (lo<=hi)=true from fQ (by omega),show decide (hi<=opI .sub .i64 64 size) = !decide (opI .sub .i64 64 size<hi) from by rw[aM];simp]
 rfl
theorem al3 {lo hi size:Int} (h1:(size==8)=false):sone lo hi size=false:=by unfold sone;rw[h1];rfl
theorem al2 {lo hi size:Int} (h2:(lo==hi)=false):sone lo hi size=false:=by unfold sone;rw[h2,Bool.false_and,Bool.and_false]
theorem pj {s:Sta} {p q:Int->Bool} {t:Ty} (h:∀k:Int,0<=k->k<=7->p k=q k):sput s p t=sput s q t:=by
 unfold sput
 rw[h 0 (by omega) (by omega),h 1 (by omega) (by omega),h 2 (by omega) (by omega),h 3 (by omega) (by omega),h 4 (by omega) (by omega),h 5 (by omega) (by omega),h 6 (by omega) (by omega),h 7 (by omega) (by omega)]
theorem adg {s:Sta} {p:Int->Bool} {t:Ty} (h:∀k:Int,0<=k->k<=7->p k=false):sput s p t=s:=by
 rw[pj (q:=fun _=>false) h];rfl
def aph (s:Sta):List Dt:=[.z s.s0.k,.z s.s0.ul,.z s.s0.uh,.z s.s0.sl,.z s.s0.sh,.z s.s0.v,.z s.s0.m,.z s.s0.lo,.z s.s0.hi,.z s.s1.k,.z s.s1.ul,.z s.s1.uh,.z s.s1.sl,.z s.s1.sh,.z s.s1.v,.z s.s1.m,.z s.s1.lo,.z s.s1.hi,.z s.s2.k,.z s.s2.ul,.z s.s2.uh,.z s.s2.sl,.z s.s2.sh,.z s.s2.v,.z s.s2.m,.z s.s2.lo,.z s.s2.hi,.z s.s3.k,.z s.s3.ul,.z s.s3.uh,.z s.s3.sl,.z s.s3.sh,.z s.s3.v,.z s.s3.m,.z s.s3.lo,.z s.s3.hi,.z s.s4.k,.z s.s4.ul,.z s.s4.uh,.z s.s4.sl,.z s.s4.sh,.z s.s4.v,.z s.s4.m,.z s.s4.lo,.z s.s4.hi,.z s.s5.k,.z s.s5.ul,.z s.s5.uh,.z s.s5.sl,.z s.s5.sh,.z s.s5.v,.z s.s5.m,.z s.s5.lo,.z s.s5.hi,.z s.s6.k,.z s.s6.ul,.z s.s6.uh,.z s.s6.sl,.z s.s6.sh,.z s.s6.v,.z s.s6.m,.z s.s6.lo,.z s.s6.hi,.z s.s7.k,.z s.s7.ul,.z s.s7.uh,.z s.s7.sl,.z s.s7.sh,.z s.s7.v,.z s.s7.m,.z s.s7.lo,.z s.s7.hi]
def pbet (a b:Int) (k:Int):Bool:=decide (a<=k)&&decide (k<b)
theorem ahK {s:Sta} {p q:Int->Bool} {t:Ty} (h:∀k:Int,0<=k->k<=7->q k=(p k||(k==0))):sput s q t={sput s p t with s0:=t}:=by
 unfold sput
 simp only[h 0 (by omega) (by omega),show q 1=p 1 from by rw[h 1 (by omega) (by omega)];exact aW _,show q 2=p 2 from by rw[h 2 (by omega) (by omega)];exact aW _,show q 3=p 3 from by rw[h 3 (by omega) (by omega)];exact aW _,show q 4=p 4 from by rw[h 4 (by omega) (by omega)];exact aW _,show q 5=p 5 from by rw[h 5 (by omega) (by omega)];exact aW _,show q 6=p 6 from by rw[h 6 (by omega) (by omega)];exact aW _,show q 7=p 7 from by rw[h 7 (by omega) (by omega)];exact aW _]
 simp
theorem ahJ {s:Sta} {p q:Int->Bool} {t:Ty} (h:∀k:Int,0<=k->k<=7->q k=(p k||(k==1))):sput s q t={sput s p t with s1:=t}:=by
 unfold sput
 simp only[h 1 (by omega) (by omega),show q 0=p 0 from by rw[h 0 (by omega) (by omega)];exact aW _,show q 2=p 2 from by rw[h 2 (by omega) (by omega)];exact aW _,show q 3=p 3 from by rw[h 3 (by omega) (by omega)];exact aW _,show q 4=p 4 from by rw[h 4 (by omega) (by omega)];exact aW _,show q 5=p 5 from by rw[h 5 (by omega) (by omega)];exact aW _,show q 6=p 6 from by rw[h 6 (by omega) (by omega)];exact aW _,show q 7=p 7 from by rw[h 7 (by omega) (by omega)];exact aW _]
 simp
theorem ahI {s:Sta} {p q:Int->Bool} {t:Ty} (h:∀k:Int,0<=k->k<=7->q k=(p k||(k==2))):sput s q t={sput s p t with s2:=t}:=by
 unfold sput
 simp only[h 2 (by omega) (by omega),show q 0=p 0 from by rw[h 0 (by omega) (by omega)];exact aW _,show q 1=p 1 from by rw[h 1 (by omega) (by omega)];exact aW _,show q 3=p 3 from by rw[h 3 (by omega) (by omega)];exact aW _,show q 4=p 4 from by rw[h 4 (by omega) (by omega)];exact aW _,show q 5=p 5 from by rw[h 5 (by omega) (by omega)];exact aW _,show q 6=p 6 from by rw[h 6 (by omega) (by omega)];exact aW _,show q 7=p 7 from by rw[h 7 (by omega) (by omega)];exact aW _]
 simp
theorem ahH {s:Sta} {p q:Int->Bool} {t:Ty} (h:∀k:Int,0<=k->k<=7->q k=(p k||(k==3))):sput s q t={sput s p t with s3:=t}:=by
 unfold sput
 simp only[h 3 (by omega) (by omega),show q 0=p 0 from by rw[h 0 (by omega) (by omega)];exact aW _,show q 1=p 1 from by rw[h 1 (by omega) (by omega)];exact aW _,show q 2=p 2 from by rw[h 2 (by omega) (by omega)];exact aW _,show q 4=p 4 from by rw[h 4 (by omega) (by omega)];exact aW _,show q 5=p 5 from by rw[h 5 (by omega) (by omega)];exact aW _,show q 6=p 6 from by rw[h 6 (by omega) (by omega)];exact aW _,show q 7=p 7 from by rw[h 7 (by omega) (by omega)];exact aW _]
 simp
theorem ahG {s:Sta} {p q:Int->Bool} {t:Ty} (h:∀k:Int,0<=k->k<=7->q k=(p k||(k==4))):sput s q t={sput s p t with s4:=t}:=by
 unfold sput
 simp only[h 4 (by omega) (by omega),show q 0=p 0 from by rw[h 0 (by omega) (by omega)];exact aW _,show q 1=p 1 from by rw[h 1 (by omega) (by omega)];exact aW _,show q 2=p 2 from by rw[h 2 (by omega) (by omega)];exact aW _,show q 3=p 3 from by rw[h 3 (by omega) (by omega)];exact aW _,show q 5=p 5 from by rw[h 5 (by omega) (by omega)];exact aW _,show q 6=p 6 from by rw[h 6 (by omega) (by omega)];exact aW _,show q 7=p 7 from by rw[h 7 (by omega) (by omega)];exact aW _]
 simp
theorem ahF {s:Sta} {p q:Int->Bool} {t:Ty} (h:∀k:Int,0<=k->k<=7->q k=(p k||(k==5))):sput s q t={sput s p t with s5:=t}:=by
 unfold sput
 simp only[h 5 (by omega) (by omega),show q 0=p 0 from by rw[h 0 (by omega) (by omega)];exact aW _,show q 1=p 1 from by rw[h 1 (by omega) (by omega)];exact aW _,show q 2=p 2 from by rw[h 2 (by omega) (by omega)];exact aW _,show q 3=p 3 from by rw[h 3 (by omega) (by omega)];exact aW _,show q 4=p 4 from by rw[h 4 (by omega) (by omega)];exact aW _,show q 6=p 6 from by rw[h 6 (by omega) (by omega)];exact aW _,show q 7=p 7 from by rw[h 7 (by omega) (by omega)];exact aW _]
 simp
theorem ahE {s:Sta} {p q:Int->Bool} {t:Ty} (h:∀k:Int,0<=k->k<=7->q k=(p k||(k==6))):sput s q t={sput s p t with s6:=t}:=by
 unfold sput
 simp only[h 6 (by omega) (by omega),show q 0=p 0 from by rw[h 0 (by omega) (by omega)];exact aW _,show q 1=p 1 from by rw[h 1 (by omega) (by omega)];exact aW _,show q 2=p 2 from by rw[h 2 (by omega) (by omega)];exact aW _,show q 3=p 3 from by rw[h 3 (by omega) (by omega)];exact aW _,show q 4=p 4 from by rw[h 4 (by omega) (by omega)];exact aW _,show q 5=p 5 from by rw[h 5 (by omega) (by omega)];exact aW _,show q 7=p 7 from by rw[h 7 (by omega) (by omega)];exact aW _]
 simp
theorem ahD {s:Sta} {p q:Int->Bool} {t:Ty} (h:∀k:Int,0<=k->k<=7->q k=(p k||(k==7))):sput s q t={sput s p t with s7:=t}:=by
 unfold sput
 simp only[h 7 (by omega) (by omega),show q 0=p 0 from by rw[h 0 (by omega) (by omega)];exact aW _,show q 1=p 1 from by rw[h 1 (by omega) (by omega)];exact aW _,show q 2=p 2 from by rw[h 2 (by omega) (by omega)];exact aW _,show q 3=p 3 from by rw[h 3 (by omega) (by omega)];exact aW _,show q 4=p 4 from by rw[h 4 (by omega) (by omega)];exact aW _,show q 5=p 5 from by rw[h 5 (by omega) (by omega)];exact aW _,show q 6=p 6 from by rw[h 6 (by omega) (by omega)];exact aW _]
 simp
theorem eQ {s:Sta} {lo hi size:Int} {t:Ty} (h:smac s lo hi size=false\/tset t=false):jr s lo hi size t=snil/\qp s lo hi size t=2:=by
 have:¬(smac s lo hi size=true/\tset t=true):=by rcases h with h | h<;>simp[h]
 exact⟨by unfold jr;rw[if_neg this],by unfold qp;rw[if_neg this]⟩
theorem aQ {s:Sta} {lo hi size:Int} {t:Ty} (h:smac s lo hi size=true) (ht:tset t=true) (h1:sone lo hi size=true):jr s lo hi size t=sput s (fun k=>k==opI .quo .i64 lo 8) t/\qp s lo hi size t=0:=by
 exact⟨by unfold jr;rw[if_pos ⟨h,ht⟩,if_pos h1],by unfold qp;rw[if_pos ⟨h,ht⟩]⟩
theorem mF {s:Sta} {lo hi size:Int} {t:Ty} (h:smac s lo hi size=true) (ht:tset t=true) (h1:sone lo hi size=false):jr s lo hi size t=sput s (fun k=>decide (lo<8*k+8)&&decide (8*k<hi+size)) fV/\qp s lo hi size t=0:=by
 exact⟨by unfold jr;rw[if_pos ⟨h,ht⟩,if_neg (by rw[h1];simp)],by unfold qp;rw[if_pos ⟨h,ht⟩]⟩
theorem aj6 {t:Ty} (h:(t.k==0)=true):tset t=false:=by unfold tset;rw[h,Bool.not_true,Bool.and_false]
theorem aj5 {t:Ty} (h:tok t=false):tset t=false:=by unfold tset;rw[h,Bool.false_and]
theorem cQ {t:Ty} (h:(t.k==0)=false) (h2:tok t=true):tset t=true:=by unfold tset;rw[h,h2];rfl
theorem aoI {s:Sta} {lo hi size n:Int} (h:smac s lo hi size=true) (h1:n<=(hi+size-1) / 8+1) (h2:(hi+size-1) / 8<n):sput s (pbet (lo / 8) n) fV=sput s (fun k=>decide (lo<8*k+8)&&decide (8*k<hi+size)) fV:=by
 obtain⟨-,g1,g2,g3,g4⟩:=qy h
 refine pj fun k k0 k1=> ?_
 unfold pbet
 rw[aM]
 simp only[thm0,bl]
 omega
theorem eu {a n k:Int} (hn:a<=n):pbet a (n+1) k=(pbet a n k||(k==n)):=by
 unfold pbet
 rw[aM]
 simp only[thm0,bG,bl,dl]
 omega
end Go.Proofs.YtfkhblmeioiciaaGreatDoor
