import Derived.Test.YtfkhblmeioiciaaGreatDoorAeZ
import Derived.Test.YtfkhblmeioiciaaGreatDoorChecked
import Derived.Shelf.Spec.TrailingZeros
import Derived.DeepKeys3
import Derived.Test.YtfkhblmeioiciaaGreatDoorProg
import Derived.Laws.Externs
set_option maxRecDepth 100000
set_option maxHeartbeats 8000000
set_option linter.defProp false
set_option linter.unusedVariables false
set_option linter.unusedSimpArgs false
namespace Go.Proofs.YtfkhblmeioiciaaGreatDoor
open Go Go.RowKit
def sbit (set i:Int):Bool:=opI .and .i64 (opI .shr .i64 set i) 1==1
structure Snap where
 r0:Int
 r1:Int
 r2:Int
 r3:Int
 r4:Int
 r5:Int
 r6:Int
 r7:Int
 r8:Int
 r9:Int
 r10:Int
 set:Int
 f0:Int
 f1:Int
 f2:Int
 f3:Int
 f4:Int
 f5:Int
 f6:Int
 f7:Int
 f8:Int
 f9:Int
 f10:Int
 f11:Int
 f12:Int
 f13:Int
 f14:Int
 f15:Int
 f16:Int
 f17:Int
 f18:Int
 f19:Int
 f20:Int
 f21:Int
 f22:Int
 f23:Int
 f24:Int
 f25:Int
 f26:Int
 f27:Int
 f28:Int
 f29:Int
 f30:Int
 f31:Int
 f32:Int
 f33:Int
 f34:Int
 f35:Int
 f36:Int
 f37:Int
 f38:Int
 f39:Int
 f40:Int
 f41:Int
 f42:Int
 f43:Int
 f44:Int
 f45:Int
 f46:Int
 f47:Int
 f48:Int
 f49:Int
 f50:Int
 f51:Int
 f52:Int
 f53:Int
 f54:Int
 f55:Int
 f56:Int
 f57:Int
 f58:Int
 f59:Int
 f60:Int
 f61:Int
 f62:Int
 f63:Int
def rok (set i:Int) (t:Ty) (v:Int):Bool:=(t.k==0||sbit set i)&&aoW t v
def smac (s:Sta) (lo hi size:Int):Bool:=(size==1||(size==2||(size==4||size==8)))&&(decide (0<=lo)&&(decide (lo<=hi)&&(decide (hi<=opI .sub .i64 64 size)&&smay s)))
def sone (lo hi size:Int):Bool:=(size==8)&&((lo==hi)&&(opI .rem .i64 lo 8==0))
def amy (s:Sta) (n:Int):Ty:=if n=0 then s.s0 else if n=1 then s.s1 else if n=2 then s.s2 else if n=3 then s.s3 else if n=4 then s.s4 else if n=5 then s.s5 else if n=6 then s.s6 else s.s7
def mS (s:Sta) (lo hi size:Int):Ty:=if smac s lo hi size=true then(if sone lo hi size=true then amy s (opI .quo .i64 lo 8) else ty 1 (vbyt size) 0 0) else tnil
def mT (s:Sta) (lo hi size:Int):Int:=if smac s lo hi size=true then 0 else 2
def sput (s:Sta) (p:Int->Bool) (t:Ty):Sta:={s with s0:=if p 0=true then t else s.s0,s1:=if p 1=true then t else s.s1,s2:=if p 2=true then t else s.s2,s3:=if p 3=true then t else s.s3,s4:=if p 4=true then t else s.s4,s5:=if p 5=true then t else s.s5,s6:=if p 6=true then t else s.s6,s7:=if p 7=true then t else s.s7}
def hJ (s:Sta) (lo hi size:Int) (t:Ty):Sta:=
 if smac s lo hi size=true/\tset t=true then(if sone lo hi size=true then sput s (fun k=>k==opI .quo .i64 lo 8) t else sput s (fun k=>decide (lo<8*k+8)&&decide (8*k<hi+size)) ea) else snil
def mO (s:Sta) (lo hi size:Int) (t:Ty):Int:=if smac s lo hi size=true/\tset t=true then 0 else 2
theorem ig {s:Sta} {lo hi size:Int} (h:smac s lo hi size=true):smay s=true/\0<=lo/\lo<=hi/\hi+size<=64/\(size=1\/size=2\/size=4\/size=8):=by
 unfold smac at h
 simp only[thm0,ey,aZ,ba] at h
 obtain⟨h1,h2,h3,h4,h5⟩:=h
 have e:opI .sub .i64 64 size=64-size:=by show IntKind.i64.wrap (64-size)=_;rw[aL];omega
 rw[e] at h4
 exact⟨h5,h2,h3,by omega,by omega⟩
theorem quo8 {i:Int} (h0:0<=i) (h1:i<=64):opI .quo .i64 i 8=i / 8:=by
 show IntKind.i64.wrap (i.tdiv 8)=_
 rw[Int.tdiv_eq_ediv_of_nonneg h0,aL];omega
theorem add1 {i:Int} (h0 : -100<=i) (h1:i<=100):opI .add .i64 i 1=i+1:=by
 show IntKind.i64.wrap (i+1)=_
 rw[aL];omega
theorem cq {s:Sta} {lo hi size:Int} (h:smac s lo hi size=true):opI .quo .i64 (opI .sub .i64 (opI .add .i64 hi size) 1) 8=(hi+size-1) / 8/\opI .add .i64 hi size=hi+size:=by
 obtain⟨-,h1,h2,h3,h4⟩:=ig h
 have e1:opI .add .i64 hi size=hi+size:=by show IntKind.i64.wrap (hi+size)=_;rw[aL];omega
 have e2:opI .sub .i64 (hi+size) 1=hi+size-1:=by show IntKind.i64.wrap (hi+size-1)=_;rw[aL];omega
 rw[e1,e2]
 exact⟨quo8 (by omega) (by omega),rfl⟩
theorem mf {s:Sta} {lo hi size:Int} (h:smac s lo hi size=false):mS s lo hi size=tnil/\mT s lo hi size=2:=by unfold mS mT;rw[h];exact⟨rfl,rfl⟩
theorem dz {s:Sta} {lo hi size:Int} (h:smac s lo hi size=true) (h1:sone lo hi size=false):mS s lo hi size=ty 1 (vbyt size) 0 0/\mT s lo hi size=0:=by unfold mS mT;rw[h,h1];exact⟨rfl,rfl⟩
theorem ay {s:Sta} {lo hi size:Int} (h:smac s lo hi size=true) (h1:sone lo hi size=true):mS s lo hi size=amy s (opI .quo .i64 lo 8)/\mT s lo hi size=0:=by unfold mS mT;rw[h,h1];exact⟨rfl,rfl⟩
theorem akn {s:Sta} {lo hi size:Int} (h:smac s lo hi size=true):opI .quo .i64 lo 8=lo / 8/\0<=lo / 8/\lo / 8<=7:=by
 obtain⟨-,h1,h2,h3,h4⟩:=ig h
 exact⟨quo8 (by omega) (by omega),by omega,by omega⟩
theorem qx {s:Sta} {lo hi size:Int} {n:Int} (h:smac s lo hi size=true) (hn:n=opI .quo .i64 lo 8) (h0:(n==0)=false) (h1:(n==1)=false) (h2:(n==2)=false) (h3:(n==3)=false) (h4:(n==4)=false) (h5:(n==5)=false) (h6:(n==6)=false) (h7:(n==7)=false):False:=by
 obtain⟨e,a,b⟩:=akn h
 rw[e] at hn
 simp only[beq_eq_false_iff_ne] at h0 h1 h2 h3 h4 h5 h6 h7
 omega
theorem ia {s:Sta} {lo hi size:Int} (h:decide (lo<0)=true):smac s lo hi size=false:=by
 have:=thm3 h
 unfold smac;rw[show decide (0<=lo)=false from eR (by omega)];simp only[aO,aK]
theorem ic {s:Sta} {lo hi size:Int} (h:decide (hi<lo)=true):smac s lo hi size=false:=by
 have:=thm3 h
 unfold smac;rw[show decide (lo<=hi)=false from eR (by omega)];simp only[aO,aK]
theorem me {s:Sta} {lo hi size:Int} (h:decide (opI .sub .i64 64 size<hi)=true):smac s lo hi size=false:=by
 have:=thm3 h
 unfold smac;rw[show decide (hi<=opI .sub .i64 64 size)=false from eR (by omega)];simp only[aO,aK]
theorem afy {s:Sta} {lo hi size:Int} (h:smay s=false):smac s lo hi size=false:=by
 unfold smac;rw[h];simp only[aK]
theorem rZ {s:Sta} {lo hi size:Int} (h1:(size==1)=false) (h2:(size==2)=false) (h3:(size==4)=false) (h4:(size==8)=false):smac s lo hi size=false:=by
 unfold smac;rw[h1,h2,h3,h4];rfl
theorem ib {s:Sta} {lo hi size:Int} (hz:(size==1)=true\/(size==2)=true\/(size==4)=true\/(size==8)=true) (h1:decide (lo<0)=false) (h2:decide (hi<lo)=false):smac s lo hi size=(!decide (opI .sub .i64 64 size<hi)&&smay s):=by
 have:=thm2 h1
 have:=thm2 h2
 unfold smac
 rw[show(size==1||(size==2||(size==4||size==8)))=true from by rcases hz with h | h | h | h<;>simp[h],show decide (0<=lo)=true from eA (by omega),show decide (lo<=hi)=true from eA (by omega),show decide (hi<=opI .sub .i64 64 size) = !decide (opI .sub .i64 64 size<hi) from by rw[ao];simp]
 rfl
theorem bJ {lo hi size:Int} (h1:(size==8)=true) (h2:(lo==hi)=true) (h3:(opI .rem .i64 lo 8==0)=true):sone lo hi size=true:=by unfold sone;rw[h1,h2,h3];rfl
theorem mQ {lo hi size:Int} (h1:(size==8)=false):sone lo hi size=false:=by unfold sone;rw[h1];rfl
theorem mP {lo hi size:Int} (h2:(lo==hi)=false):sone lo hi size=false:=by unfold sone;rw[h2,aO,aK]
theorem pO {lo hi size:Int} (h3:(opI .rem .i64 lo 8==0)=false):sone lo hi size=false:=by unfold sone;rw[h3,aK,aK]
theorem kT {s:Sta} {p q:Int->Bool} {t:Ty} (h:∀k:Int,0<=k->k<=7->p k=q k):sput s p t=sput s q t:=by
 unfold sput
 rw[h 0 (by omega) (by omega),h 1 (by omega) (by omega),h 2 (by omega) (by omega),h 3 (by omega) (by omega),h 4 (by omega) (by omega),h 5 (by omega) (by omega),h 6 (by omega) (by omega),h 7 (by omega) (by omega)]
theorem jV {s:Sta} {p:Int->Bool} {t:Ty} (h:∀k:Int,0<=k->k<=7->p k=false):sput s p t=s:=by
 rw[kT (q:=fun _=>false) h];rfl
def sd (s:Sta):List Dt:=[.z s.s0.k,.z s.s0.ul,.z s.s0.uh,.z s.s0.sl,.z s.s0.sh,.z s.s0.v,.z s.s0.m,.z s.s0.lo,.z s.s0.hi,.z s.s1.k,.z s.s1.ul,.z s.s1.uh,.z s.s1.sl,.z s.s1.sh,.z s.s1.v,.z s.s1.m,.z s.s1.lo,.z s.s1.hi,.z s.s2.k,.z s.s2.ul,.z s.s2.uh,.z s.s2.sl,.z s.s2.sh,.z s.s2.v,.z s.s2.m,.z s.s2.lo,.z s.s2.hi,.z s.s3.k,.z s.s3.ul,.z s.s3.uh,.z s.s3.sl,.z s.s3.sh,.z s.s3.v,.z s.s3.m,.z s.s3.lo,.z s.s3.hi,.z s.s4.k,.z s.s4.ul,.z s.s4.uh,.z s.s4.sl,.z s.s4.sh,.z s.s4.v,.z s.s4.m,.z s.s4.lo,.z s.s4.hi,.z s.s5.k,.z s.s5.ul,.z s.s5.uh,.z s.s5.sl,.z s.s5.sh,.z s.s5.v,.z s.s5.m,.z s.s5.lo,.z s.s5.hi,.z s.s6.k,.z s.s6.ul,.z s.s6.uh,.z s.s6.sl,.z s.s6.sh,.z s.s6.v,.z s.s6.m,.z s.s6.lo,.z s.s6.hi,.z s.s7.k,.z s.s7.ul,.z s.s7.uh,.z s.s7.sl,.z s.s7.sh,.z s.s7.v,.z s.s7.m,.z s.s7.lo,.z s.s7.hi]
def pbet (a b:Int) (k:Int):Bool:=decide (a<=k)&&decide (k<b)
def pbyt (a b:Int) (k:Int):Bool:=decide (a<b)&&(decide (a<8*k+8)&&decide (8*k<b))
theorem mc {s:Sta} {p q:Int->Bool} {t:Ty} (h:∀k:Int,0<=k->k<=7->q k=(p k||(k==0))):sput s q t={sput s p t with s0:=t}:=by
 unfold sput
 simp only[h 0 (by omega) (by omega),show q 1=p 1 from by rw[h 1 (by omega) (by omega)];exact aq _,show q 2=p 2 from by rw[h 2 (by omega) (by omega)];exact aq _,show q 3=p 3 from by rw[h 3 (by omega) (by omega)];exact aq _,show q 4=p 4 from by rw[h 4 (by omega) (by omega)];exact aq _,show q 5=p 5 from by rw[h 5 (by omega) (by omega)];exact aq _,show q 6=p 6 from by rw[h 6 (by omega) (by omega)];exact aq _,show q 7=p 7 from by rw[h 7 (by omega) (by omega)];exact aq _]
 simp
theorem lZ {s:Sta} {p q:Int->Bool} {t:Ty} (h:∀k:Int,0<=k->k<=7->q k=(p k||(k==1))):sput s q t={sput s p t with s1:=t}:=by
 unfold sput
 simp only[h 1 (by omega) (by omega),show q 0=p 0 from by rw[h 0 (by omega) (by omega)];exact aq _,show q 2=p 2 from by rw[h 2 (by omega) (by omega)];exact aq _,show q 3=p 3 from by rw[h 3 (by omega) (by omega)];exact aq _,show q 4=p 4 from by rw[h 4 (by omega) (by omega)];exact aq _,show q 5=p 5 from by rw[h 5 (by omega) (by omega)];exact aq _,show q 6=p 6 from by rw[h 6 (by omega) (by omega)];exact aq _,show q 7=p 7 from by rw[h 7 (by omega) (by omega)];exact aq _]
 simp
theorem lY {s:Sta} {p q:Int->Bool} {t:Ty} (h:∀k:Int,0<=k->k<=7->q k=(p k||(k==2))):sput s q t={sput s p t with s2:=t}:=by
 unfold sput
 simp only[h 2 (by omega) (by omega),show q 0=p 0 from by rw[h 0 (by omega) (by omega)];exact aq _,show q 1=p 1 from by rw[h 1 (by omega) (by omega)];exact aq _,show q 3=p 3 from by rw[h 3 (by omega) (by omega)];exact aq _,show q 4=p 4 from by rw[h 4 (by omega) (by omega)];exact aq _,show q 5=p 5 from by rw[h 5 (by omega) (by omega)];exact aq _,show q 6=p 6 from by rw[h 6 (by omega) (by omega)];exact aq _,show q 7=p 7 from by rw[h 7 (by omega) (by omega)];exact aq _]
 simp
theorem lX {s:Sta} {p q:Int->Bool} {t:Ty} (h:∀k:Int,0<=k->k<=7->q k=(p k||(k==3))):sput s q t={sput s p t with s3:=t}:=by
 unfold sput
 simp only[h 3 (by omega) (by omega),show q 0=p 0 from by rw[h 0 (by omega) (by omega)];exact aq _,show q 1=p 1 from by rw[h 1 (by omega) (by omega)];exact aq _,show q 2=p 2 from by rw[h 2 (by omega) (by omega)];exact aq _,show q 4=p 4 from by rw[h 4 (by omega) (by omega)];exact aq _,show q 5=p 5 from by rw[h 5 (by omega) (by omega)];exact aq _,show q 6=p 6 from by rw[h 6 (by omega) (by omega)];exact aq _,show q 7=p 7 from by rw[h 7 (by omega) (by omega)];exact aq _]
 simp
theorem lW {s:Sta} {p q:Int->Bool} {t:Ty} (h:∀k:Int,0<=k->k<=7->q k=(p k||(k==4))):sput s q t={sput s p t with s4:=t}:=by
 unfold sput
 simp only[h 4 (by omega) (by omega),show q 0=p 0 from by rw[h 0 (by omega) (by omega)];exact aq _,show q 1=p 1 from by rw[h 1 (by omega) (by omega)];exact aq _,show q 2=p 2 from by rw[h 2 (by omega) (by omega)];exact aq _,show q 3=p 3 from by rw[h 3 (by omega) (by omega)];exact aq _,show q 5=p 5 from by rw[h 5 (by omega) (by omega)];exact aq _,show q 6=p 6 from by rw[h 6 (by omega) (by omega)];exact aq _,show q 7=p 7 from by rw[h 7 (by omega) (by omega)];exact aq _]
 simp
theorem lV {s:Sta} {p q:Int->Bool} {t:Ty} (h:∀k:Int,0<=k->k<=7->q k=(p k||(k==5))):sput s q t={sput s p t with s5:=t}:=by
 unfold sput
 simp only[h 5 (by omega) (by omega),show q 0=p 0 from by rw[h 0 (by omega) (by omega)];exact aq _,show q 1=p 1 from by rw[h 1 (by omega) (by omega)];exact aq _,show q 2=p 2 from by rw[h 2 (by omega) (by omega)];exact aq _,show q 3=p 3 from by rw[h 3 (by omega) (by omega)];exact aq _,show q 4=p 4 from by rw[h 4 (by omega) (by omega)];exact aq _,show q 6=p 6 from by rw[h 6 (by omega) (by omega)];exact aq _,show q 7=p 7 from by rw[h 7 (by omega) (by omega)];exact aq _]
 simp
theorem lU {s:Sta} {p q:Int->Bool} {t:Ty} (h:∀k:Int,0<=k->k<=7->q k=(p k||(k==6))):sput s q t={sput s p t with s6:=t}:=by
 unfold sput
 simp only[h 6 (by omega) (by omega),show q 0=p 0 from by rw[h 0 (by omega) (by omega)];exact aq _,show q 1=p 1 from by rw[h 1 (by omega) (by omega)];exact aq _,show q 2=p 2 from by rw[h 2 (by omega) (by omega)];exact aq _,show q 3=p 3 from by rw[h 3 (by omega) (by omega)];exact aq _,show q 4=p 4 from by rw[h 4 (by omega) (by omega)];exact aq _,show q 5=p 5 from by rw[h 5 (by omega) (by omega)];exact aq _,show q 7=p 7 from by rw[h 7 (by omega) (by omega)];exact aq _]
 simp
theorem lT {s:Sta} {p q:Int->Bool} {t:Ty} (h:∀k:Int,0<=k->k<=7->q k=(p k||(k==7))):sput s q t={sput s p t with s7:=t}:=by
 unfold sput
 simp only[h 7 (by omega) (by omega),show q 0=p 0 from by rw[h 0 (by omega) (by omega)];exact aq _,show q 1=p 1 from by rw[h 1 (by omega) (by omega)];exact aq _,show q 2=p 2 from by rw[h 2 (by omega) (by omega)];exact aq _,show q 3=p 3 from by rw[h 3 (by omega) (by omega)];exact aq _,show q 4=p 4 from by rw[h 4 (by omega) (by omega)];exact aq _,show q 5=p 5 from by rw[h 5 (by omega) (by omega)];exact aq _,show q 6=p 6 from by rw[h 6 (by omega) (by omega)];exact aq _]
 simp
theorem cA {s:Sta} {lo hi size:Int} {t:Ty} (h:smac s lo hi size=false\/tset t=false):hJ s lo hi size t=snil/\mO s lo hi size t=2:=by
 have:¬(smac s lo hi size=true/\tset t=true):=by rcases h with h | h<;>simp[h]
 exact⟨by unfold hJ;rw[if_neg this],by unfold mO;rw[if_neg this]⟩
theorem au {s:Sta} {lo hi size:Int} {t:Ty} (h:smac s lo hi size=true) (ht:tset t=true) (h1:sone lo hi size=true):hJ s lo hi size t=sput s (fun k=>k==opI .quo .i64 lo 8) t/\mO s lo hi size t=0:=by
 exact⟨by unfold hJ;rw[if_pos ⟨h,ht⟩,if_pos h1],by unfold mO;rw[if_pos ⟨h,ht⟩]⟩
theorem cU {s:Sta} {lo hi size:Int} {t:Ty} (h:smac s lo hi size=true) (ht:tset t=true) (h1:sone lo hi size=false):hJ s lo hi size t=sput s (fun k=>decide (lo<8*k+8)&&decide (8*k<hi+size)) ea/\mO s lo hi size t=0:=by
 exact⟨by unfold hJ;rw[if_pos ⟨h,ht⟩,if_neg (by rw[h1];simp)],by unfold mO;rw[if_pos ⟨h,ht⟩]⟩
theorem vN {t:Ty} (h:(t.k==0)=true):tset t=false:=by unfold tset;rw[h,Bool.not_true,aK]
theorem vM {t:Ty} (h:tok t=false):tset t=false:=by unfold tset;rw[h,aO]
theorem bg {t:Ty} (h:(t.k==0)=false) (h2:tok t=true):tset t=true:=by unfold tset;rw[h,h2];rfl
theorem al4 {s:Sta} {lo hi size n:Int} (h:smac s lo hi size=true) (h1:n<=(hi+size-1) / 8+1) (h2:(hi+size-1) / 8<n):sput s (pbet (lo / 8) n) ea=sput s (fun k=>decide (lo<8*k+8)&&decide (8*k<hi+size)) ea:=by
 obtain⟨-,g1,g2,g3,g4⟩:=ig h
 refine kT fun k k0 k1=> ?_
 unfold pbet
 rw[ao]
 simp only[thm0,ba]
 omega
theorem vq {s:Sta} {lo hi size n:Int} (h:smac s lo hi size=true) (h1:n=hi+size):sput s (pbyt lo n) ea=sput s (fun k=>decide (lo<8*k+8)&&decide (8*k<hi+size)) ea:=by
 obtain⟨-,g1,g2,g3,g4⟩:=ig h
 refine kT fun k k0 k1=> ?_
 unfold pbyt
 rw[ao]
 simp only[thm0,ba]
 omega
theorem fP {a n k:Int} (hn:a<=n):pbet a (n+1) k=(pbet a n k||(k==n)):=by
 unfold pbet
 rw[ao]
 simp only[thm0,ey,ba,aZ]
 omega
theorem bf {a n k:Int} (ha:0<=a) (hn:a<=n) (hk:0<=k):pbyt a (n+1) k=(pbyt a n k||(k==n / 8)):=by
 unfold pbyt
 rw[ao]
 simp only[thm0,ey,ba,aZ]
 omega
open Go.ChangeShapes Go.WideShapes
def repL (ks:List CE):Nat->List CE
 | 0=>[]
 | n+1=>ks++repL ks n
theorem wV (ks:List CE):∀n,(repL ks n).length=n*ks.length
 | 0=>by simp[repL]
 | n+1=>by simp only[repL,fD,wV ks n,Nat.succ_mul];omega
theorem Rw.array {P:Program} {t e:TypeId} {ks:List CE} {n:Nat} (r:Rw P e ks) (ht:P.underlying t=some (.array n e)) (hc:P.cellsOf t=(repL ks n).length):Rw P t (repL ks n) where
 cells:=hc
 opn:=fun {H} {enc} {W} {sp} {hd} {fuel} {cs} {d} h=>by
  obtain⟨xs,m,_,_,hl,hlen,hf⟩:=DataW.trod_array ht h
  rw[hc,wV] at hl
  have key:∀(k i:Nat),i+k=n->∃q,cs.drop (i*ks.length)=rowV (repL ks k) q/\aF (repL ks k) q=true:=by
   intro k
   induction k with
   | zero=>intro i hi;exact⟨[],by rw[List.drop_eq_nil_of_le (by rw[hl];exact Nat.mul_le_mul_right _ (by omega))];rfl,rfl⟩
   | succ k ih=>
     intro i hi
     have h1:=hf i (by omega)
     rw[r.cells,thm6 (by omega)] at h1
     obtain⟨a,ha,ha'⟩:=r.opn h1
     obtain⟨b,hb,hb'⟩:=ih (i+1) (by omega)
     refine⟨a++b,?_,nl ha' hb'⟩
     show _=rowV (ks++repL ks k) _
     rw[qq ha',<-ha,<-hb,Nat.succ_mul,<-List.drop_drop,List.take_append_drop]
  obtain⟨q,h1,h2⟩:=key n 0 (by omega)
  rw[Nat.zero_mul,List.drop_zero] at h1
  exact⟨q,h1,h2⟩
theorem pt {P:Program} {t:TypeId} {ks:List CE} (r:Rw P t ks) {fs:Array Field} (ht:P.underlying t=some (.struct fs)) {H:Type} {enc:TypeId×Value->H} {W:World} {hd:Bool} {v:Value} {d:DataW H} {p:List MemPlace} {rc:Reach} {b0:Nat}
  (hv:Value.okWide P W rc b0 t v) (h:DataW.Trod enc P W 0 (fun _=>true) hd t v d p):∃q,v=.agg (rowV ks q).toArray/\aF ks q=true:=by
 obtain⟨fuel,hf⟩:=h
 obtain⟨cs,rfl,_⟩:=okWide_struct ht hv
 obtain⟨q,h1,h2⟩:=r.opn hf
 refine⟨q,?_,h2⟩
 have:cs.toList=rowV ks q:=by simpa[Value.cells] using h1
 rw[<-this]
theorem cH {k:CE} {ks:List CE} {q:List Int} (h:aF (k::ks) q=true):∃x q',q=x::q'/\inCE k x=true/\aF ks q'=true:=by
 cases q with
 | nil=>cases h
 | cons x q'=>
   simp only[aF,thm0] at h
   exact⟨x,q',rfl,h.1,h.2⟩
theorem nj {q:List Int} (h:aF [] q=true):q=[]:=by
 cases q with
 | nil=>rfl
 | cons=>cases h
def Kl (P:Program) (d t:Nat) (z:List C):Prop:=∀vs,aC vs z->P.keyLits d t vs=some (cg vs)
def repC (z:List C):Nat->List C
 | 0=>[]
 | n+1=>z++repC z n
theorem ef:∀{z:List C} {vs:List Value},aC vs z->vs.length=z.length
 | [],vs,h=>by rw[bD h];rfl
 | .int k e::r,vs,h=>by
   obtain⟨x,l,rfl,_,h2⟩:=ae h
   simp[ef h2]
 | .bool e::r,vs,h=>by
   obtain⟨x,l,rfl,h2⟩:=dw h
   simp[ef h2]
 | .yld _::_,vs,h | .wn _ _ _ _ _::_,vs,h | .aw _ _ _ _ _ _ _::_,vs,h | .str _::_,vs,h | .pe _ _ _ _ _ _::_,vs,h | .nmp::_,vs,h | .mp _::_,vs,h | .itp _ _::_,vs,h | .ptr _ _::_,vs,h | .fp _ _::_,vs,h | .fn _::_,vs,h | .np::_,vs,h | .undef::_,vs,h | .sl _::_,vs,h | .ep _ _ _ _::_,vs,h | .nsl::_,vs,h | .nf::_,vs,h | .clo _ _ _::_,vs,h=>by
   cases vs with
   | nil=>exact h.elim
   | cons v l=>cases v<;>exact h.elim
theorem iO:∀{z z':List C} {vs:List Value},aC vs (z++z')->∃v1 v2,vs=v1++v2/\aC v1 z/\aC v2 z'/\cg vs=cg v1++cg v2
 | [],z',vs,h=>⟨[],vs,rfl,trivial,h,rfl⟩
 | .int k e::r,z',vs,h=>by
   obtain⟨x,l,rfl,hx,h2⟩:=ae (r:=r++z') h
   obtain⟨v1,v2,rfl,h3,h4,h5⟩:=iO h2
   exact⟨.int k x::v1,v2,rfl,⟨rfl,hx,h3⟩,h4,by simp[cg,h5]⟩
 | .bool e::r,z',vs,h=>by
   obtain⟨x,l,rfl,h2⟩:=dw (r:=r++z') h
   obtain⟨v1,v2,rfl,h3,h4,h5⟩:=iO h2
   exact⟨.bool x::v1,v2,rfl,h3,h4,by simp[cg,h5]⟩
 | .yld _::_,_,vs,h | .wn _ _ _ _ _::_,_,vs,h | .aw _ _ _ _ _ _ _::_,_,vs,h | .str _::_,_,vs,h | .pe _ _ _ _ _ _::_,_,vs,h | .nmp::_,_,vs,h | .mp _::_,_,vs,h | .itp _ _::_,_,vs,h | .ptr _ _::_,_,vs,h | .fp _ _::_,_,vs,h | .fn _::_,_,vs,h | .np::_,_,vs,h | .undef::_,_,vs,h | .sl _::_,_,vs,h | .ep _ _ _ _::_,_,vs,h | .nsl::_,_,vs,h | .nf::_,_,vs,h | .clo _ _ _::_,_,vs,h=>by
   cases vs with
   | nil=>exact h.elim
   | cons v l=>cases v<;>exact h.elim
theorem Kl.int {P:Program} {d t:Nat} {k:IntKind} (e:E) (ht:P.underlying t=some (.int k)):Kl P (d+1) t [.int k e]:=fun vs hv=>by
 obtain⟨x,l,rfl,hx,h2⟩:=ae hv
 obtain rfl:=bD h2
 have hw:(Lit.int k x).wf=true:=hx
 simp[Program.keyLits,ht,cg,hw]
theorem Kl.array {P:Program} {d t e n:Nat} {z:List C} (h:Kl P d e z) (ht:P.underlying t=some (.array n e)) (he:P.cellsOf e=z.length) (hc:P.cellsOf t=n*z.length):Kl P (d+1) t (repC z n):=fun vs hv=>by
 have key:∀(k i:Nat) (cs us:List Value),cs.drop (i*z.length)=us->aC us (repC z k)->∃ls,((List.range' i k).mapM fun i=>P.keyLits d e ((cs.drop (i*P.cellsOf e)).take (P.cellsOf e)))=some ls/\ls.flatten=cg us:=by
  intro k
  induction k with
  | zero=>intro i cs us _ hu;exact⟨[],rfl,by rw[bD hu];rfl⟩
  | succ k ih=>
    intro i cs us hd hu
    obtain⟨v1,v2,rfl,h1,h2,h3⟩:=iO (z:=z) (z':=repC z k) hu
    have hl:=ef h1
    obtain⟨ls,g1,g2⟩:=ih (i+1) cs v2 (by rw[Nat.succ_mul,<-List.drop_drop,hd,List.drop_left' hl]) h2
    refine⟨cg v1::ls,?_,by rw[List.flatten_cons,g2,h3]⟩
    rw[List.range'_succ,List.mapM_cons,he,hd,List.take_left' hl,h v1 h1]
    rw[he] at g1
    simp only[Option.pure_def,Option.bind_eq_bind,Option.bind_some,g1]
 obtain⟨ls,g1,g2⟩:=key n 0 vs vs (by simp) hv
 have hl:vs.length=P.cellsOf t:=by
  have hr:∀m,(repC z m).length=m*z.length:=fun m=>by
   induction m with
   | zero=>simp[repC]
   | succ m ih=>simp only[repC,fD,ih,Nat.succ_mul];omega
  rw[hc,ef hv,hr]
 simp only[Program.keyLits,ht,hl,if_true]
 rw[List.range_eq_range',g1]
 simp[g2]
def KlSeq (P:Program) (d off:Nat) (fs:List Field) (z:List C):Prop:=∀(cs us:List Value),cs.drop off=us->aC us z->∃ls,(fs.mapM fun f=>P.keyLits d f.type ((cs.drop f.offset).take (P.cellsOf f.type)))=some ls/\ls.flatten=cg us
theorem KlSeq.nil (P:Program) (d off:Nat):KlSeq P d off [] []:=fun cs us _ hu=>⟨[],rfl,by rw[bD hu];rfl⟩
theorem KlSeq.cons {P:Program} {d off:Nat} {f:Field} {fs:List Field} {z z':List C} (h:Kl P d f.type z) (ho:f.offset=off) (hc:P.cellsOf f.type=z.length) (h':KlSeq P d (off+z.length) fs z'):KlSeq P d off (f::fs) (z++z'):=fun cs us hd hu=>by
 obtain⟨v1,v2,rfl,h1,h2,h3⟩:=iO hu
 have hl:=ef h1
 obtain⟨ls,g1,g2⟩:=h' cs v2 (by rw[<-List.drop_drop,hd,List.drop_left' hl]) h2
 refine⟨cg v1::ls,?_,by rw[List.flatten_cons,g2,h3]⟩
 rw[List.mapM_cons,ho,hc,hd,List.take_left' hl,h v1 h1]
 simp only[Option.pure_def,Option.bind_eq_bind,Option.bind_some,g1]
theorem Kl.struct {P:Program} {d t:Nat} {fs:Array Field} {z:List C} (h:KlSeq P d 0 fs.toList z) (ht:P.underlying t=some (.struct fs)) (hc:P.cellsOf t=z.length) (hn:fs.all (·.name != "_")=true):Kl P (d+1) t z:=fun vs hv=>by
 obtain⟨ls,g1,g2⟩:=h vs vs rfl hv
 have hl:vs.length=P.cellsOf t:=by rw[hc,ef hv]
 simp only[Program.keyLits,ht,hl,hn,and_self,if_true,g1]
 simp[g2]
theorem tv {P:Program} {t:Nat} {fs:Array Field} {z:List C} (ht:P.underlying t=some (.struct fs)) (hc:P.cellsOf t=z.length) (vs:List Value) (hv:aC vs z):(Value.agg vs.toArray).formed P t=true:=by
 simp[Value.formed,ht,hc,ef hv]
theorem eqI {a b:Int} (h:(a==b)=true):a=b:=by simpa using h
theorem neI {a b:Int} (h:(a==b)=false):a≠b:=by simpa using h
structure Ins where
 k:Int
 op:Int
 w:Int
 sz:Int
 br:Bool
 d:Int
 s:Int
 off:Int
 imm:Int
structure Prog where
 ctx:Int
 l:List (List Int)
def aN (n:Int):Bool:=n==1||(n==2||(n==4||n==8))
def immz (x:Ins):Ins:=if x.br=true then {x with s:=0,br:=false} else {x with imm:=0,br:=false}
def cp (x:Ins):Ins×Bool:=
 if x.k=0 then({immz x with op:=0,w:=0,d:=0},(decide (0<=x.op)&&decide (x.op<=12))&&((x.w==32||x.w==64)&&(decide (x.d<10)&&(!(x.op==8)||(!x.br&&x.imm==0)))))
 else if x.k=1 then({x with sz:=0,d:=0,s:=0,off:=0},aN x.sz&&decide (x.d<10))
 else if x.k=2 then({x with sz:=0,d:=0,s:=0,off:=0},aN x.sz)
 else if x.k=3 then({immz x with op:=0,d:=0,off:=0},decide (0<=x.op)&&decide (x.op<=10))
 else if x.k=4 then({x with off:=0},true)
 else if x.k=5 then({x with imm:=0},decide (0<=x.imm)&&decide (x.imm<=15))
 else if x.k=6 then(x,true)
 else(x,false)
def fy (x y:Ins):Bool:=y.k==x.k&&(y.op==0&&(y.w==0&&(y.sz==0&&(!y.br&&(y.d==0&&(y.s==0&&(y.off==0&&y.imm==0)))))))
def eN (x:Ins):Bool:=(decide (0<=x.d)&&decide (x.d<=10))&&((decide (0<=x.s)&&decide (x.s<=10))&&((decide (-32768<=x.off)&&decide (x.off<=32767))&&(decide (-2147483648<=x.imm)&&decide (x.imm<=2147483647))))
def imay (x:Ins):Bool:=eN x&&((cp x).2&&fy x (cp x).1)
def itgt (i:Int) (x:Ins):Int×Bool:=
 if(x.k=3\/x.k=4)/\((decide (-1099511627776<=i)&&decide (i<=1099511627776))&&(decide (-1099511627776<=x.off)&&decide (x.off<=1099511627776)))=true then(opI .add .i64 (opI .add .i64 i 1) x.off,true) else(0,false)
def jF (n:Int):Int:=if(decide (0<=n)&&decide (n<=15))=true then opI .rem .i64 n 6 else 0
def bit1 (n:Int):Int:=opI .shl .i64 1 n
def vrd (x:Ins):Int:=
 if imay x=true then
  if x.k=0 then(if x.op=11 then(if x.br=true then bit1 x.s else 0) else opI .or .i64 (bit1 x.d) (if x.br=true then bit1 x.s else 0))
  else if x.k=1 then bit1 x.s
  else if x.k=2 then opI .or .i64 (bit1 x.d) (bit1 x.s)
  else if x.k=3 then opI .or .i64 (bit1 x.d) (if x.br=true then bit1 x.s else 0)
  else if x.k=5 then opI .sub .i64 (opI .shl .i64 1 (opI .add .i64 (jF x.imm) 1)) 2
  else if x.k=6 then 1 else 0
 else 0
def vwr (x:Ins):Int:=if imay x=true then(if x.k=0\/x.k=1 then bit1 x.d else if x.k=5 then 63 else 0) else 0
theorem cF {x:Ins} (h:imay x=true):0<=x.d/\x.d<=10/\0<=x.s/\x.s<=10 /\ -32768<=x.off/\x.off<=32767/\0<=x.k/\x.k<=6:=by
 unfold imay eN at h
 simp only[thm0,ba] at h
 obtain⟨⟨⟨a,b⟩,⟨c,d⟩,⟨e,f⟩,_⟩,h2,_⟩:=h
 have:0<=x.k/\x.k<=6:=by
  unfold cp at h2
  split at h2;· omega
  split at h2;· omega
  split at h2;· omega
  split at h2;· omega
  split at h2;· omega
  split at h2;· omega
  split at h2;· omega
  cases h2
 omega
theorem iQ (n:Int):0<=jF n/\jF n<=5:=by
 unfold jF
 split
 ·rename_i h
  simp only[thm0,ba] at h
  show 0<=n.tmod 6/\n.tmod 6<=5
  rw[Int.tmod_eq_emod_of_nonneg h.1]
  omega
 ·omega
theorem tq {i:Int} {x:Ins} (hk:x.k=3\/x.k=4) (h1:(decide (-1099511627776<=i)&&decide (i<=1099511627776))=true) (h2:(decide (-1099511627776<=x.off)&&decide (x.off<=1099511627776))=true):itgt i x=(opI .add .i64 (opI .add .i64 i 1) x.off,true):=by
 unfold itgt;rw[if_pos ⟨hk,by rw[h1,h2];rfl⟩]
theorem o8 {i:Int} {x:Ins} (h1:(decide (-1099511627776<=i)&&decide (i<=1099511627776))=false):itgt i x=(0,false):=by
 unfold itgt;rw[if_neg (fun h=>by rw[h1] at h;exact absurd h.2 (by simp))]
theorem o7 {i:Int} {x:Ins} (h2:(decide (-1099511627776<=x.off)&&decide (x.off<=1099511627776))=false):itgt i x=(0,false):=by
 unfold itgt;rw[if_neg (fun h=>by rw[h2] at h;exact absurd h.2 (by simp))]
theorem xK {i:Int} {x:Ins} (h3:(x.k==3)=false) (h4:(x.k==4)=false):itgt i x=(0,false):=by
 unfold itgt;rw[if_neg (fun h=>by rcases h.1 with h | h<;>simp[h] at h3 h4)]
theorem alX {n:Int} (h:(decide (0<=n)&&decide (n<=15))=true):jF n=opI .rem .i64 n 6:=if_pos h
theorem alY {n:Int} (h:(decide (0<=n)&&decide (n<=15))=false):jF n=0:=if_neg (by rw[h];simp)
def aa (l:List (List Int)) (i:Int):Ins:=⟨gt l i 0,gt l i 1,gt l i 2,gt l i 3,gt l i 4==1,gt l i 5,gt l i 6,gt l i 7,gt l i 8⟩
theorem ai (l:List (List Int)) (i:Int):(⟨gt l i 0,gt l i 1,gt l i 2,gt l i 3,gt l i 4==1,gt l i 5,gt l i 6,gt l i 7,gt l i 8⟩:Ins)=aa l i:=rfl
def Prog.last (p:Prog):Int:=opI .sub .i64 (p.l.length:Int) 1
def ly (p:Prog) (n:Int):Option Int:=
 if imay (aa p.l n)=false then some 31
 else if(itgt n (aa p.l n)).2=true/\(decide (0<=(itgt n (aa p.l n)).1)&&decide ((itgt n (aa p.l n)).1<=p.last))=false then some 32 else none
def scan (p:Prog):Nat->Nat->Option (Int×Int)
 | 0,_=>none
 | m+1,n=>match ly p n with
   | some e=>some (n,e)
   | none=>scan p m (n+1)
def cY (p:Prog):Int×Int:=
 if(decide (0<=p.ctx)&&decide (p.ctx<=256))=false then(0,2)
 else if(decide (0<=p.last)&&decide (p.last<=63))=false then(0,3)
 else match scan p p.l.length 0 with
  | some r=>r
  | none=>if(aa p.l p.last).k=4\/(aa p.l p.last).k=6 then(0,0) else(p.last,33)
theorem lr {p:Prog} (c0:(decide (0<=p.ctx)&&decide (p.ctx<=256))=false):cY p=(0,2):=by unfold cY;rw[if_pos c0]
theorem lm {p:Prog} (c0:(decide (0<=p.ctx)&&decide (p.ctx<=256))=true) (c1:(decide (0<=p.last)&&decide (p.last<=63))=false):cY p=(0,3):=by
 unfold cY;rw[if_neg (by rw[c0];simp),if_pos c1]
theorem jX {p:Prog} {n:Nat} (h:n<p.l.length) (hb:ly p n=none):scan p (p.l.length-n) n=scan p (p.l.length-(n+1)) (n+1):=by
 rw[show p.l.length-n=(p.l.length-(n+1))+1 by omega]
 simp only[scan,hb]
theorem gl {p:Prog} {n:Nat} {e:Int} (c0:(decide (0<=p.ctx)&&decide (p.ctx<=256))=true) (c1:(decide (0<=p.last)&&decide (p.last<=63))=true) (hs:scan p p.l.length 0=scan p (p.l.length-n) n) (h:n<p.l.length) (hb:ly p n=some e):cY p=((n:Int),e):=by
 unfold cY
 rw[if_neg (by rw[c0];simp),if_neg (by rw[c1];simp),hs,show p.l.length-n=(p.l.length-(n+1))+1 by omega]
 simp only[scan,hb]
theorem fc {p:Prog} {n:Nat} (c0:(decide (0<=p.ctx)&&decide (p.ctx<=256))=true) (c1:(decide (0<=p.last)&&decide (p.last<=63))=true) (hs:scan p p.l.length 0=scan p (p.l.length-n) n) (h:n=p.l.length):cY p=if(aa p.l p.last).k=4\/(aa p.l p.last).k=6 then(0,0) else(p.last,33):=by
 unfold cY
 rw[if_neg (by rw[c0];simp),if_neg (by rw[c1];simp),hs,h,Nat.sub_self]
 rfl
theorem oq {p:Prog} {n:Int} (h:imay (aa p.l n)=false):ly p n=some 31:=by unfold ly;rw[if_pos h]
theorem ri {p:Prog} {n:Int} (h:imay (aa p.l n)=true) (h2:(itgt n (aa p.l n)).2=true) (h3:(decide (0<=(itgt n (aa p.l n)).1)&&decide ((itgt n (aa p.l n)).1<=p.last))=false):ly p n=some 32:=by
 unfold ly;rw[if_neg (by rw[h];simp),if_pos ⟨h2,h3⟩]
theorem mE {p:Prog} {n:Int} (h:imay (aa p.l n)=true) (h2:(itgt n (aa p.l n)).2=false\/(decide (0<=(itgt n (aa p.l n)).1)&&decide ((itgt n (aa p.l n)).1<=p.last))=true):ly p n=none:=by
 unfold ly;rw[if_neg (by rw[h];simp),if_neg (fun q=>by rcases h2 with h2 | h2<;>rw[h2] at q<;>simp at q)]
theorem uY {p:Prog} (c1:(decide (0<=p.last)&&decide (p.last<=63))=true) (hl:p.l.length<=maxLen):p.last=(p.l.length:Int)-1/\1<=p.l.length/\p.l.length<=64:=by
 simp only[thm0,ba] at c1
 have e:p.last=(p.l.length:Int)-1:=by
  unfold Prog.last
  show IntKind.i64.wrap ((p.l.length:Int)-1)=_
  rw[aL];simp[maxLen] at hl;omega
 omega
theorem addN {n m:Nat} (h:n<m) (hm:m<=maxLen):opI .add .i64 (n:Int) 1=((n+1:Nat):Int):=by
 show IntKind.i64.wrap ((n:Int)+1)=_
 rw[aL];simp[maxLen] at hm;omega
theorem ap (l:List (List Int)) (i:Int):aa [[gt l i 0,gt l i 1,gt l i 2,gt l i 3,b2i (gt l i 4==1),gt l i 5,gt l i 6,gt l i 7,gt l i 8]] 0=aa l i:=by
 show(⟨gt l i 0,gt l i 1,gt l i 2,gt l i 3,b2i (gt l i 4==1)==1,gt l i 5,gt l i 6,gt l i 7,gt l i 8⟩:Ins)=_
 rw[b2i_one];rfl
theorem anZ {v:Int} (h:inK .i8 v=true):IntKind.i64.wrap v=v:=by
 simp[inK,IntKind.min,IntKind.max,IntKind.signed,IntKind.bits] at h
 rw[aL]
 omega
def tptr (t:Ty):Bool:=(t.k==2)||(t.k==3)
def tsc (s:Sc):Ty:=ty 1 s 0 0
def far2 (n:Int):Bool:=decide (-1048576<=n)&&decide (n<=1048576)
def mlo (s:Sc) (b:Bool):Int:=if b=true then IntKind.i64.wrap (0-s.sh) else s.sl
def mhi (s:Sc) (b:Bool):Int:=if b=true then IntKind.i64.wrap (0-s.sl) else s.sh
def eI (t:Ty) (s:Sc) (b:Bool):Ty:={t with lo:=IntKind.i64.wrap (t.lo+mlo s b),hi:=IntKind.i64.wrap (t.hi+mhi s b)}
def fi (t:Ty) (s:Sc) (b:Bool):Ty:=
 if(decide (-1048576<=s.sl)&&decide (s.sh<=1048576))=true/\(far2 (eI t s b).lo&&far2 (eI t s b).hi)=true then eI t s b else ea
def aluA (x:Ins) (a b:Ty):Ty:=if x.op=11 then b else a
def aluB (x:Ins) (b:Ty):Ty:=if x.op=8 then tsc (vone 0) else b
def eX (op w:Int) (a b:Ty):Ty:=
 if(!tptr a &&!tptr b)=true then tsc (vdo op w a.s b.s)
 else if w=64/\tptr b=false/\(op=0\/op=1) then fi a b.s (op==1)
 else if w=64/\tptr a=false/\op=0 then fi b a.s false
 else if w=64 then ea
 else tsc (vbyt 4)
def valu (x:Ins) (a b:Ty):Ty:=if x.op=11/\x.w=64 then b else eX x.op x.w (aluA x a b) (aluB x b)
def ax (ctx:Int) (t:Ty) (off size:Int):Bool:=
 tptr t&&(aN size&&((far2 off&&(far2 t.lo&&far2 t.hi))&&(decide (t.lo<=t.hi)&&(decide (0<=t.lo+off)&&decide (t.hi+off+size<=if t.k=2 then ctx else 64)))))
theorem pT {t:Ty} (h:(t.k==2)=true):tptr t=true:=by unfold tptr;rw[h];rfl
theorem pU {t:Ty} (h:(t.k==3)=true):tptr t=true:=by unfold tptr;rw[h,Bool.or_true]
theorem pF {t:Ty} (h:(t.k==2)=false) (h2:(t.k==3)=false):tptr t=false:=by unfold tptr;rw[h,h2];rfl
section
variable {x:Ins} {a b:Ty} {op w:Int}
theorem va_m (h:(x.op==11)=true) (h2:(x.w==64)=true):valu x a b=b:=if_pos ⟨eqI h,eqI h2⟩
theorem va_o (h:(x.op==11)=true) (h2:(x.w==64)=false):valu x a b=eX x.op x.w b b:=by
 unfold valu aluA aluB
 rw[if_neg (fun e=>neI h2 e.2),if_pos (eqI h),if_neg (by have:=eqI h;omega)]
theorem va_n (h:(x.op==11)=false) (h2:(x.op==8)=true):valu x a b=eX x.op x.w a (tsc (vone 0)):=by
 unfold valu aluA aluB
 rw[if_neg (fun e=>neI h e.1),if_neg (neI h),if_pos (eqI h2)]
theorem va_e (h:(x.op==11)=false) (h2:(x.op==8)=false):valu x a b=eX x.op x.w a b:=by
 unfold valu aluA aluB
 rw[if_neg (fun e=>neI h e.1),if_neg (neI h),if_neg (neI h2)]
theorem of_1 (ha:tptr a=false) (hb:tptr b=false):eX op w a b=tsc (vdo op w a.s b.s):=if_pos (by rw[ha,hb];rfl)
theorem of_n (h:tptr a=true\/tptr b=true):¬(!tptr a &&!tptr b)=true:=by
 rcases h with h | h<;>rw[h]<;>simp
theorem of_2 (h:tptr a=true\/tptr b=true) (hw:(w==64)=false):eX op w a b=tsc (vbyt 4):=by
 unfold eX
 rw[if_neg (of_n h),if_neg (fun e=>neI hw e.1),if_neg (fun e=>neI hw e.1),if_neg (neI hw)]
theorem of_3 (ha:tptr a=true) (hb:tptr b=false) (hw:(w==64)=true) (h:op=0\/op=1):eX op w a b=fi a b.s (op==1):=by
 unfold eX
 rw[if_neg (of_n (.inl ha)),if_pos ⟨eqI hw,hb,h⟩]
theorem of_4 (ha:tptr a=false) (hb:tptr b=true) (hw:(w==64)=true) (h:(op==0)=true):eX op w a b=fi b a.s false:=by
 unfold eX
 rw[if_neg (of_n (.inr hb)),if_neg (fun e=>by rw[hb] at e;cases e.2.1),if_pos ⟨eqI hw,ha,eqI h⟩]
theorem of_5 (ha:tptr a=true) (hb:tptr b=true) (hw:(w==64)=true):eX op w a b=ea:=by
 unfold eX
 rw[if_neg (of_n (.inl ha)),if_neg (fun e=>by rw[hb] at e;cases e.2.1),if_neg (fun e=>by rw[ha] at e;cases e.2.1),if_pos (eqI hw)]
theorem of_6 (ha:tptr a=true) (hw:(w==64)=true) (h:(op==0)=false) (h1:(op==1)=false):eX op w a b=ea:=by
 unfold eX
 rw[if_neg (of_n (.inl ha)),if_neg (fun e=>e.2.2.elim (neI h) (neI h1)),if_neg (fun e=>neI h e.2.2),if_pos (eqI hw)]
theorem of_7 (hb:tptr b=true) (hw:(w==64)=true) (h:(op==0)=false):eX op w a b=ea:=by
 unfold eX
 rw[if_neg (of_n (.inr hb)),if_neg (fun e=>by rw[hb] at e;cases e.2.1),if_neg (fun e=>neI h e.2.2),if_pos (eqI hw)]
theorem of_8 (ha:tptr a=true) (hw:(w==64)=true) (h:(op==8)=true):eX op w a b=ea:=of_6 ha hw (by rw[eqI h];rfl) (by rw[eqI h];rfl)
theorem cf {t:Ty} {s:Sc} {b:Bool} (h:s.sl < -1048576\/1048576<s.sh\/(eI t s b).lo < -1048576\/1048576<(eI t s b).lo\/(eI t s b).hi < -1048576\/1048576<(eI t s b).hi):fi t s b=ea:=by
 unfold fi far2
 rw[if_neg]
 intro e
 simp only[thm0,ba] at e
 omega
theorem lJ {t:Ty} {s:Sc} {b:Bool} (h0:¬s.sl < -1048576) (h1:¬1048576<s.sh) (h2:¬(eI t s b).lo < -1048576) (h3:¬1048576<(eI t s b).lo) (h4:¬(eI t s b).hi < -1048576) (h5:¬1048576<(eI t s b).hi):fi t s b=eI t s b:=by
 unfold fi far2
 rw[if_pos]
 simp only[thm0,ba]
 omega
end
def dh (cc:Int):Bool:=decide (0<=cc)&&decide (cc<10)
def dr (cc:Int):Int:=if cc=0 then 1 else if cc=1 then 0 else if cc=2 then 5 else if cc=3 then 4 else if cc=4 then 3 else if cc=5 then 2 else if cc=6 then 9 else if cc=7 then 8 else if cc=8 then 7 else if cc=9 then 6 else 0
def pcnt (n:Int):Int:=if n=1\/n=2\/n=4\/n=8 then 1 else if n=7 then 3 else 2
theorem cnt8 {n:Int} (h:1<=n/\n<=8):n=1\/n=2\/n=3\/n=4\/n=5\/n=6\/n=7\/n=8:=by omega
open Go.Shelf
def aoU:Ren:=⟨fun | 29=>37 | n=>n,fun | 0=>0 | 3=>3 | 4=>4 | 5=>5 | 22=>42 | 25=>105 | 54=>81 | n=>n,fun _=>0⟩
theorem aoV:Lays7.n29 Tryz.prog aoU:={
 mixed:=by kernel_rfl
 f29:=Tryz.func37.trans (congrArg some (by kernel_rfl))
 t0:=Tryz.underlying0
 a0:=Tryz.isAgg0
 z0:=Tryz.sizeOf0
 v0:=Tryz.zeroValue0
 i0:=by kernel_rfl
 t3:=Tryz.underlying3
 a3:=Tryz.isAgg3
 z3:=Tryz.sizeOf3
 v3:=Tryz.zeroValue3
 i3:=by kernel_rfl
 t4:=Tryz.underlying4
 a4:=Tryz.isAgg4
 z4:=Tryz.sizeOf4
 v4:=Tryz.zeroValue4
 i4:=by kernel_rfl
 t5:=Tryz.underlying5
 a5:=Tryz.isAgg5
 z5:=Tryz.sizeOf5
 v5:=Tryz.zeroValue5
 i5:=by kernel_rfl
 t22:=Tryz.underlying42
 a22:=Tryz.isAgg42
 z22:=Tryz.sizeOf42
 v22:=Tryz.zeroValue42
 i22:=by kernel_rfl
 t25:=Tryz.underlying105
 a25:=Tryz.isAgg105
 z25:=Tryz.sizeOf105
 v25:=Tryz.zeroValue105
 i25:=by kernel_rfl
 t54:=Tryz.underlying81
 a54:=Tryz.isAgg81
 z54:=Tryz.sizeOf81
 g1:=by kernel_rfl
}
def sHw (w:World):Prop:=TabAt 0 Lib.deBruijn64tab w
theorem sHx (w w':World) (hx:Ext w w') (h:sHw w):sHw w':=by
 intro j hj
 have h1:=h j hj
 have hlt:0<w.heap.size:=by
  rcases bq 0 w.heap.size with h2 | h2
  ·exact h2
  ·have h3:w.heap[0]? =none:=Array.getElem?_eq_none h2
   simp[World.cell?,h3] at h1
 rw[World.cell?_of_block (a:=⟨0,j,none⟩) (hx.block 0 hlt)]
 exact h1
theorem sHi:∃w,sHw w:=by
 refine⟨(default:World).alloc (.cells (Lib.deBruijn64tab.map fun(n:Nat)=>Value.int .u8 (n:Int)).toArray 0),?_⟩
 intro j hj
 have h0:(default:World).heap.size=0:=rfl
 have:=heap_alloc_new (default:World) (.cells (Lib.deBruijn64tab.map fun(n:Nat)=>Value.int .u8 (n:Int)).toArray 0)
 rw[h0] at this
 rw[iT this]
 simp only[Lib.deBruijn64tab,List.length_cons,List.length_nil] at hj
 have key:∀j,j<64->(Lib.deBruijn64tab.map fun(n:Nat)=>Value.int .u8 (n:Int))[j]? =some (.int .u8 (Lib.deBruijn64tab.getD j 0)):=by
  intro j hj
  rw[jU,eb]
  have h1:j<Lib.deBruijn64tab.length:=by simpa[Lib.deBruijn64tab] using hj
  rw[thm6 h1]
  rfl
 exact key j (by omega)
def tzI (x:Int):Int:=Lib.ctz 64 x.toNat
def mV (x:Int):List Dt:=[.z (tzI x)]
def fV:List Dt->List Dt
 | [.z x]=>mV x
 | _=>[]
def nc (key:Nat):Sm:=⟨37,key,[.one (.int .u64)],[.one (.int .i64)],false⟩
theorem aol (x:Nat) (hx:x<2 ^ 64):Lib.ctz 64 x<=64:=by
 by_cases h:x=0
 ·subst h;decide
 ·exact Nat.le_of_lt (Lib.lowest_bit 64 x h hx).2
theorem qo {sp:Spec} {key:Nat} (hF:sp.F key=fV) (hH:∀w,sp.hw w->sHw w:=by exact fun _ h=>h):SmOk Tryz.prog sp (nc key):=by
 refine SmOk.pureW hF rfl rfl (fun xs vals w h hh=> ?_)
 obtain⟨_,_,_,rfl,⟨x,rfl,rfl,gx⟩,h⟩:=h
 obtain⟨rfl,rfl⟩:=h
 obtain⟨n,rfl⟩:∃n:Nat,x=n:=by
  simp[inK,IntKind.min,IntKind.max,IntKind.signed,IntKind.bits] at gx
  exact⟨x.toNat,by omega⟩
 have hn:n<2 ^ 64:=by
  simp[inK,IntKind.min,IntKind.max,IntKind.signed,IntKind.bits] at gx
  omega
 have hle:=aol n hn
 refine⟨.int .i64 (Lib.ctz 64 n),.inr ⟨cW Tryz.func37 (by kernel_rfl) (by kernel_rfl) _ w,?_⟩,?_,fun U v0 nid j he=> ?_⟩
 ·refine(Any7.bits_TrailingZeros64 aoV n hn w fun _=>hH w hh).mono ?_
  rintro e w' ⟨rfl,rfl⟩
  exact⟨rfl,.refl _⟩
 ·refine⟨?_,trivial⟩
  show inK .i64 (Lib.ctz 64 (n:Int).toNat:Int)=true
  rw[ez]
  simp[inK,IntKind.min,IntKind.max,IntKind.signed,IntKind.bits]
  omega
 ·have h1:U.i v0=(Lib.ctz 64 (n:Int).toNat:Int):=he.1
  rw[ez] at h1
  show some (Value.int .i64 (U.i v0))=_
  rw[h1]
def ao8 (p:Prog) (i:Int):List (List Int):=
 if(aa p.l i).k≠4/\(aa p.l i).k≠6 then
  if(itgt i (aa p.l i)).2=true/\(itgt i (aa p.l i)).1≠opI .add .i64 i 1 then[[min (itgt i (aa p.l i)).1 (opI .add .i64 i 1)],[max (itgt i (aa p.l i)).1 (opI .add .i64 i 1)]] else[[opI .add .i64 i 1]]
 else if(itgt i (aa p.l i)).2=true then[[(itgt i (aa p.l i)).1]] else[]
abbrev BV:=BitVec 64
def bvI (x:Int):BV:=BitVec.ofInt 64 x
theorem kL (X:BV):bvI X.toInt=X:=BitVec.ofInt_toInt
theorem ahd (X:BV):IntKind.i64.wrap (X.toNat:Int)=X.toInt:=by
 rw[aL,BitVec.toInt_eq_toNat_cond]
 have:=X.isLt
 split<;>omega
theorem xj (x y:Int):opI .or .i64 x y=(bvI x ||| bvI y).toInt:=ahd _
theorem yT (x y:Int):opI .andNot .i64 x y=(bvI x &&& ~~~ bvI y).toInt:=ahd _
theorem aiK {x:Int} (h:inK .i64 x=true):(bvI x).toInt=x:=by
 have h : -9223372036854775808<=x/\x<=9223372036854775807:=bL.1 h
 unfold bvI
 rw[BitVec.toInt_ofInt,Int.bmod_def]
 split<;>omega
def ip (L:List BV):List (List Int):=L.map fun x=>[x.toInt]
theorem wN (L:List BV):(ip L).length=L.length:=by simp[ip]
theorem my {L:List BV} {i:Nat} (h:i<L.length):gt (ip L) i 0=(L.getD i 0).toInt:=by
 simp[gt,ip,h]
theorem vT {L:List BV} {i:Nat} (h:i<L.length) (X:BV):st (ip L) i 0 X.toInt=ip (L.set i X):=by
 simp[st,ip,h,List.map_set]
def sub (a b:BV):Prop:=∀k,a.getLsbD k=true->b.getLsbD k=true
def nx (p:Prog) (i:Nat):List Nat:=(ao8 p i).map fun r=>(r.getD 0 0).toNat
def wB (p:Prog) (i:Nat):BV:=bvI (vwr (aa p.l i))
def rB (p:Prog) (i:Nat):BV:=bvI (vrd (aa p.l i))
def orB (I:List BV) (l:List Nat) (a:BV):BV:=l.foldl (fun a m=>a ||| I.getD m 0) a
theorem fv (I:List BV) (k:Nat):∀(l:List Nat) (a:BV),(orB I l a).getLsbD k=true↔a.getLsbD k=true\/∃m,m∈l/\(I.getD m 0).getLsbD k=true
 | [],a=>by simp[orB]
 | m::l,a=>by
   have:=fv I k l (a ||| I.getD m 0)
   unfold orB at *
   rw[List.foldl_cons,this,BitVec.getLsbD_or]
   simp only[ey,List.mem_cons]
   constructor
   ·rintro ((h | h) | ⟨x,h1,h2⟩)
    ·exact .inl h
    ·exact .inr ⟨m,.inl rfl,h⟩
    ·exact .inr ⟨x,.inr h1,h2⟩
   ·rintro (h | ⟨x,rfl | h1,h2⟩)
    ·exact .inl (.inl h)
    ·exact .inl (.inr h2)
    ·exact .inr ⟨x,h1,h2⟩
def stO (p:Prog) (I O:List BV):List BV:=(List.range p.l.length).map fun i=>orB I (nx p i) (O.getD i 0)
def liB (p:Prog) (O:List BV) (i:Nat):BV:=(O.getD i 0 &&& ~~~ wB p i) ||| rB p i
def stI (p:Prog) (O:List BV):List BV:=(List.range p.l.length).map fun i=>liB p O i
theorem uq (p:Prog) (I O:List BV):(stO p I O).length=p.l.length:=by simp[stO]
theorem fU (p:Prog) (O:List BV):(stI p O).length=p.l.length:=by simp[stI]
theorem rJ {p:Prog} {I O:List BV} {i:Nat} (h:i<p.l.length):(stO p I O).getD i 0=orB I (nx p i) (O.getD i 0):=by simp[stO,h]
theorem rK {p:Prog} {O:List BV} {i:Nat} (h:i<p.l.length):(stI p O).getD i 0=liB p O i:=by simp[stI,h]
structure Inv (p:Prog) (I O:List BV):Prop where
 li:I.length=p.l.length
 lo:O.length=p.l.length
 up:∀i,i<p.l.length->sub (I.getD i 0) (liB p O i)
 on:∀i,i<p.l.length->sub (O.getD i 0) (orB I (nx p i) 0)
 rd:∀i k,(I.getD i 0).getLsbD k=true->∃j,j<p.l.length/\(rB p j).getLsbD k=true
theorem uW {p:Prog} {O:List BV} {i k:Nat} (hk:k<64):(liB p O i).getLsbD k=true↔(O.getD i 0).getLsbD k=true/\(wB p i).getLsbD k=false\/(rB p i).getLsbD k=true:=by
 unfold liB
 rw[BitVec.getLsbD_or,BitVec.getLsbD_and,BitVec.getLsbD_not]
 simp[hk]
theorem aeM {a:BV} {k:Nat} (h:a.getLsbD k=true):k<64:=by
 rcases bq k 64 with h1 | h1
 ·exact h1
 ·rw[BitVec.getLsbD_of_ge _ _ h1] at h;cases h
theorem Inv.zero (p:Prog):Inv p (List.replicate p.l.length 0) (List.replicate p.l.length 0) where
 li:=by simp
 lo:=by simp
 up:=fun i hi k h=>by simp[hi] at h
 on:=fun i hi k h=>by simp[hi] at h
 rd:=fun i k h=>by
  rcases bq i p.l.length with hi | hi
  ·simp[hi] at h
  ·simp[List.getD,List.getElem?_replicate,Nat.not_lt.2 hi] at h
theorem grow {p:Prog} {I O:List BV} (h:Inv p I O):∀i,sub (I.getD i 0) ((stI p (stO p I O)).getD i 0):=fun i k hk=>by
 rcases bq i p.l.length with hi | hi
 ·rw[rK hi,uW (aeM hk)]
  rcases(uW (aeM hk)).1 (h.up i hi k hk) with⟨h1,h2⟩ | h1
  ·exact .inl ⟨by rw[rJ hi];exact(fv _ _ _ _).2 (.inl h1),h2⟩
  ·exact .inr h1
 ·simp[List.getD,bX (h.li▸hi)] at hk
theorem Inv.step {p:Prog} {I O:List BV} (h:Inv p I O):Inv p (stI p (stO p I O)) (stO p I O) where
 li:=fU _ _
 lo:=uq _ _ _
 up:=fun i hi k hk=>by rw[rK hi] at hk;exact hk
 on:=fun i hi k hk=>by
  rw[rJ hi] at hk
  have:∃m,m∈nx p i/\(I.getD m 0).getLsbD k=true:=by
   rcases(fv _ _ _ _).1 hk with h1 | h1
   ·rcases(fv _ _ _ _).1 (h.on i hi k h1) with h2 | h2
    ·simp at h2
    ·exact h2
   ·exact h1
  obtain⟨m,h1,h2⟩:=this
  exact(fv _ _ _ _).2 (.inr ⟨m,h1,grow h m k h2⟩)
 rd:=fun i k hk=>by
  rcases bq i p.l.length with hi | hi
  ·rw[rK hi] at hk
   rcases(uW (aeM hk)).1 hk with⟨h1,_⟩ | h1
   ·rw[rJ hi] at h1
    rcases(fv _ _ _ _).1 h1 with h2 | ⟨m,_,h2⟩
    ·rcases(fv _ _ _ _).1 (h.on i hi k h2) with h3 | ⟨m,_,h3⟩
     ·simp at h3
     ·exact h.rd m k h3
    ·exact h.rd m k h2
   ·exact⟨i,hi,h1⟩
  ·simp[List.getD,bX ((fU p (stO p I O)).symm▸hi)] at hk
structure Fix (p:Prog) (I O:List BV):Prop where
 li:I.length=p.l.length
 lo:O.length=p.l.length
 ii:∀i,i<p.l.length->I.getD i 0=liB p O i
 oo:∀i,i<p.l.length->O.getD i 0=orB I (nx p i) 0
 rd:∀i k,(I.getD i 0).getLsbD k=true->∃j,j<p.l.length/\(rB p j).getLsbD k=true
theorem Inv.fix {p:Prog} {I O:List BV} (h:Inv p I O) (he:stI p (stO p I O)=I):Fix p I (stO p I O) where
 li:=h.li
 lo:=uq _ _ _
 ii:=fun i hi=>by conv=>lhs;rw[<-he]
                  exact rK hi
 oo:=fun i hi=>by
  rw[rJ hi]
  refine BitVec.eq_of_getLsbD_eq fun k hk=> ?_
  rw[ao,fv,fv]
  constructor
  ·rintro (h1 | h1)
   ·exact(fv _ _ _ _).1 (h.on i hi k h1)
   ·exact .inr h1
  ·rintro (h1 | h1)
   ·simp at h1
   ·exact .inr h1
 rd:=h.rd
theorem ag6 {p:Prog} {n e:Int} (h:ly p n=some e):e≠0:=by
 unfold ly at h
 split at h
 ·cases h;decide
 ·split at h
  ·cases h;decide
  ·cases h
theorem sf {p:Prog}:∀(m n:Nat) {r:Int×Int},scan p m n=some r->r.2≠0
 | 0,_,_,h=>by cases h
 | m+1,n,r,h=>by
   unfold scan at h
   split at h
   ·rename_i e he
    cases h
    exact ag6 he
   ·exact sf m (n+1) h
theorem si {p:Prog}:∀(m n:Nat),scan p m n=none->∀j,j<m->ly p ((n+j:Nat):Int)=none
 | 0,_,_,j,hj=>by omega
 | m+1,n,h,j,hj=>by
   unfold scan at h
   split at h
   ·cases h
   ·rename_i he
    cases j with
    | zero=>exact he
    | succ j=>rw[show n+(j+1)=(n+1)+j by omega];exact si m (n+1) h j (by omega)
theorem nQ {p:Prog} (hl:p.l.length<=maxLen) (h:(cY p).2=0):(p.last=(p.l.length:Int)-1/\1<=p.l.length/\p.l.length<=64)/\(∀n:Nat,n<p.l.length->ly p n=none)/\((aa p.l p.last).k=4\/(aa p.l p.last).k=6):=by
 unfold cY at h
 split at h
 ·cases h
 split at h
 ·cases h
 rename_i _ c1
 have c1:(decide (0<=p.last)&&decide (p.last<=63))=true:=by simpa using c1
 split at h
 ·rename_i r hr;exact absurd h (sf _ _ hr)
 rename_i hs
 split at h
 ·rename_i hk;exact⟨uY c1 hl,fun n hn=>by simpa using si _ 0 hs n hn,hk⟩
 ·cases h
structure Ways (p:Prog) (m j:Nat) (ws:List (List Int)):Prop where
 snd:∀r,r∈ws->∃i k:Nat,(i<m/\k∈nx p i\/i=m/\k∈(nx p m).take j)/\r=[(i:Int),(k:Int),1]
 cmp:∀i k:Nat,(i<m/\k∈nx p i\/i=m/\k∈(nx p m).take j)->[(i:Int),(k:Int),1]∈ws
 len:ws.length<=2*m+j
theorem Ways.nil (p:Prog):Ways p 0 0 []:=⟨fun r h=>by simp at h,fun i k h=>by simp at h,Nat.le_refl _⟩
theorem Ways.out {p:Prog} {m j:Nat} {ws:List (List Int)} (h:Ways p m j ws) (hj:j=(nx p m).length) (h2:(nx p m).length<=2):Ways p (m+1) 0 ws where
 snd:=fun r hr=>by
  obtain⟨i,k,h1,rfl⟩:=h.snd r hr
  refine⟨i,k,.inl ?_,rfl⟩
  rw[hj,List.take_length] at h1
  rcases h1 with⟨h3,h4⟩ | ⟨rfl,h4⟩
  ·exact⟨by omega,h4⟩
  ·exact⟨by omega,h4⟩
 cmp:=fun i k hik=>h.cmp i k (by
  rw[hj,List.take_length]
  rcases hik with⟨h3,h4⟩ | ⟨_,h4⟩
  ·rcases bq i m with h5 | h5
   ·exact .inl ⟨h5,h4⟩
   ·obtain rfl:i=m:=by omega
    exact .inr ⟨rfl,h4⟩
  ·simp at h4)
 len:=by have:=h.len;omega
theorem Ways.more {p:Prog} {m j:Nat} {ws ws':List (List Int)} {k:Nat} (h:Ways p m j ws) (hk:(nx p m)[j]? =some k) (hs:∀r,r∈ws'↔r∈ws\/r=[(m:Int),(k:Int),1]) (hl:ws'.length<=ws.length+1):Ways p m (j+1) ws':=by
 have ht:∀x,x∈(nx p m).take (j+1)↔x∈(nx p m).take j\/x=k:=fun x=>by
  rw[List.take_add_one,hk]
  simp
 refine⟨fun r hr=> ?_,fun i x hx=> ?_,by have:=h.len;omega⟩
 ·rcases(hs r).1 hr with h1 | h1
  ·obtain⟨i,x,h2,rfl⟩:=h.snd r h1
   refine⟨i,x,?_,rfl⟩
   rcases h2 with h2 | ⟨h2,h3⟩
   ·exact .inl h2
   ·exact .inr ⟨h2,(ht x).2 (.inl h3)⟩
  ·exact⟨m,k,.inr ⟨rfl,(ht k).2 (.inr rfl)⟩,h1⟩
 ·rcases hx with h1 | ⟨rfl,h1⟩
  ·exact(hs _).2 (.inl (h.cmp i x (.inl h1)))
  ·rcases(ht x).1 h1 with h2 | rfl
   ·exact(hs _).2 (.inl (h.cmp i x (.inr ⟨rfl,h2⟩)))
   ·exact(hs _).2 (.inr rfl)
theorem Ways.app {p:Prog} {m j:Nat} {ws:List (List Int)} {k:Nat} (h:Ways p m j ws) (hk:(nx p m)[j]? =some k):Ways p m (j+1) (ws++[[(m:Int),(k:Int),1]]):=
 h.more hk (fun r=>by simp) (by simp)
theorem alq {L:List (List Int)} {key:List Int} (h:mixI L key<(L.length:Int)):∃(i:Nat) (hi:i<L.length),mixI L key=(i:Int)/\(L[i].take key.length==key)=true:=by
 have hi:L.findIdx (fun r=>r.take key.length==key)<L.length:=by unfold mixI at h;omega
 exact⟨_,hi,rfl,List.findIdx_getElem (w:=hi)⟩
theorem Ways.put {p:Prog} {m j:Nat} {ws:List (List Int)} {k:Nat} (h:Ways p m j ws) (hk:(nx p m)[j]? =some k) (hm:mixI ws [(m:Int),(k:Int)]<(ws.length:Int)):Ways p m (j+1) (ws.set (mixI ws [(m:Int),(k:Int)]).toNat [(m:Int),(k:Int),1]):=by
 obtain⟨i,hi,he,ht⟩:=alq hm
 have hr:ws[i]=[(m:Int),(k:Int),1]:=by
  obtain⟨a,b,_,h2⟩:=h.snd _ (List.getElem_mem hi)
  rw[h2] at ht ⊢
  simp at ht
  simp[ht]
 have:ws.set (mixI ws [(m:Int),(k:Int)]).toNat [(m:Int),(k:Int),1]=ws:=by
  rw[he,<-hr]
  simp
 rw[this]
 refine h.more hk (fun r=>⟨.inl,fun h1=>h1.elim id fun h2=> ?_⟩) (Nat.le_succ _)
 rw[h2,<-hr]
 exact List.getElem_mem hi
structure Seen (p:Prog) (I O:List BV) (ws L V:List (List Int)):Prop where
 ex:∃(X:List BV) (un:List Nat),L=ip X/\X.length=p.l.length/\un.length+V.length=ws.length/\(∀v:Nat,v<ws.length->[(v:Int)]∈V\/v∈un)/\
  ∀i,i<p.l.length->∀k,(X.getD i 0).getLsbD k=true↔(O.getD i 0).getLsbD k=true\/∃v m:Nat,[(v:Int)]∈V/\ws[v]? =some [(i:Int),(m:Int),1]/\(I.getD m 0).getLsbD k=true
theorem Seen.init (p:Prog) (I O:List BV) (ws:List (List Int)) (hO:O.length=p.l.length):Seen p I O ws (ip O) []:=
 ⟨O,List.range ws.length,rfl,hO,by simp,fun v hv=>.inr (by simpa using hv),fun i _ k=>by simp⟩
theorem Seen.step {p:Prog} {I O:List BV} {ws L V:List (List Int)} (h:Seen p I O ws L V) {v a b:Nat} (hI:I.length=p.l.length) (hv:[(v:Int)] ∉ V) (hw:ws[v]? =some [(a:Int),(b:Int),1]) (ha:a<p.l.length) (hb:b<p.l.length):
  Seen p I O ws (st L a 0 (opI .or .i64 (gt L a 0) (gt (ip I) b 0))) (V++[[(v:Int)]]):=by
 obtain⟨X,un,rfl,hX,hl,hu,hb'⟩:=h.ex
 have hvl:v<ws.length:=(cP.1 hw).1
 have hun:v∈un:=(hu v hvl).elim (fun h=>(hv h).elim) id
 rw[my (hX▸ha),my (hI▸hb),xj,kL,kL,vT (hX▸ha)]
 refine⟨X.set a (X.getD a 0 ||| I.getD b 0),un.erase v,rfl,by simp[hX],?_,fun w hwl=> ?_,fun i hi k=> ?_⟩
 ·have:=List.length_erase_of_mem hun
  have:0<un.length:=List.length_pos_of_mem hun
  simp
  omega
 ·rcases hu w hwl with h1 | h1
  ·exact .inl (by simp[h1])
  ·by_cases hwv:w=v
   ·exact .inl (by simp[hwv])
   ·exact .inr ((List.mem_erase_of_ne hwv).2 h1)
 ·have hset:(X.set a (X.getD a 0 ||| I.getD b 0)).getD i 0=if a=i then X.getD a 0 ||| I.getD b 0 else X.getD i 0:=by
   simp only[eb,dT]
   split
   ·simp[hX,ha]
   ·rfl
  rw[hset]
  by_cases hai:a=i
  ·subst hai
   rw[if_pos rfl,BitVec.getLsbD_or,ey,hb' a ha k]
   constructor
   ·rintro ((h1 | ⟨w,m,h1,h2,h3⟩) | h1)
    ·exact .inl h1
    ·exact .inr ⟨w,m,by simp[h1],h2,h3⟩
    ·exact .inr ⟨v,b,by simp,hw,h1⟩
   ·rintro (h1 | ⟨w,m,h1,h2,h3⟩)
    ·exact .inl (.inl h1)
    ·rcases List.mem_append.1 h1 with h4 | h4
     ·exact .inl (.inr ⟨w,m,h4,h2,h3⟩)
     ·have:w=v:=by
       have:[(w:Int)]=[(v:Int)]:=by simpa using h4
       injection this with this
       exact Int.ofNat_inj.1 this
      rw[this,hw] at h2
      have:b=m:=by
       have h2:=Option.some.inj h2
       simp only[thm5] at h2
       exact Int.ofNat_inj.1 h2.2.1
      exact .inr (this▸h3)
  ·rw[if_neg hai,hb' i hi k]
   constructor
   ·rintro (h1 | ⟨w,m,h1,h2,h3⟩)
    ·exact .inl h1
    ·exact .inr ⟨w,m,by simp[h1],h2,h3⟩
   ·rintro (h1 | ⟨w,m,h1,h2,h3⟩)
    ·exact .inl h1
    ·rcases List.mem_append.1 h1 with h4 | h4
     ·exact .inr ⟨w,m,h4,h2,h3⟩
     ·have:w=v:=by
       have:[(w:Int)]=[(v:Int)]:=by simpa using h4
       injection this with this
       exact Int.ofNat_inj.1 this
      rw[this,hw] at h2
      have:a=i/\b=m:=by
       have h2:=Option.some.inj h2
       simp only[thm5] at h2
       exact⟨Int.ofNat_inj.1 h2.1,Int.ofNat_inj.1 h2.2.1⟩
      exact(hai this.1).elim
theorem Seen.len {p:Prog} {I O:List BV} {ws L V:List (List Int)} (h:Seen p I O ws L V):L.length=p.l.length:=by
 obtain⟨X,un,rfl,hX,_⟩:=h.ex
 rw[wN,hX]
theorem Seen.done {p:Prog} {I O:List BV} {ws L V:List (List Int)} (h:Seen p I O ws L V) (hw:Ways p p.l.length 0 ws) (he:¬V.length<ws.length):L=ip (stO p I O):=by
 obtain⟨X,un,rfl,hX,hl,hu,hb⟩:=h.ex
 obtain rfl:un=[]:=List.eq_nil_of_length_eq_zero (by omega)
 congr 1
 refine List.ext_getElem (by rw[hX,uq]) fun i h1 h2=> ?_
 have hi:i<p.l.length:=hX▸h1
 have e1:X[i]=X.getD i 0:=by simp[h1]
 have e2:(stO p I O)[i]=(stO p I O).getD i 0:=by simp[h2]
 rw[e1,e2,rJ hi]
 refine BitVec.eq_of_getLsbD_eq fun k hk=> ?_
 rw[ao,hb i hi k,fv]
 constructor
 ·rintro (h3 | ⟨v,m,h3,h4,h5⟩)
  ·exact .inl h3
  ·obtain⟨a,c,h6,h7⟩:=hw.snd _ (fT h4)
   simp only[thm5,Int.natCast_inj,and_true] at h7
   obtain⟨rfl,rfl⟩:=h7
   rcases h6 with⟨_,h6⟩ | ⟨_,h6⟩
   ·exact .inr ⟨m,h6,h5⟩
   ·simp at h6
 ·rintro (h3 | ⟨m,h3,h5⟩)
  ·exact .inl h3
  ·obtain⟨v,hv,h4⟩:=List.getElem_of_mem (hw.cmp i m (.inl ⟨hi,h3⟩))
   exact .inr ⟨v,m,(hu v hv).elim id (fun h=>by simp at h),by rw[thm6 hv,h4],h5⟩
structure Wrote (p:Prog) (I O:List BV) (m:Nat) (b:Bool) (L:List (List Int)):Prop where
 ll:L=ip ((stI p O).take m++I.drop m)
 bb:b=true↔(stI p O).take m≠I.take m
theorem Wrote.init (p:Prog) (I O:List BV):Wrote p I O 0 false (ip I):=⟨by simp,by simp⟩
theorem Wrote.len {p:Prog} {I O:List BV} {m:Nat} {b:Bool} {L:List (List Int)} (h:Wrote p I O m b L) (hI:I.length=p.l.length) (hm:m<=p.l.length):L.length=p.l.length:=by
 rw[h.ll,wN]
 simp[fU,hI]
 omega
theorem Wrote.old {p:Prog} {I O:List BV} {m:Nat} {b:Bool} {L:List (List Int)} (h:Wrote p I O m b L) (hI:I.length=p.l.length) (hm:m<p.l.length):gt L m 0=(I.getD m 0).toInt:=by
 rw[h.ll,my (by simp[fU,hI];omega)]
 congr 1
 simp[eb,List.getElem?_append,fU,Nat.min_eq_left (Nat.le_of_lt hm)]
theorem Wrote.step {p:Prog} {I O:List BV} {m:Nat} {b:Bool} {L:List (List Int)} (h:Wrote p I O m b L) (hI:I.length=p.l.length) (hO:O.length=p.l.length) (hm:m<p.l.length):
  Wrote p I O (m+1) (b ||!((opI .or .i64 (opI .andNot .i64 (gt (ip O) m 0) (vwr (aa p.l m))) (vrd (aa p.l m)))==gt L m 0)) (st L m 0 (opI .or .i64 (opI .andNot .i64 (gt (ip O) m 0) (vwr (aa p.l m))) (vrd (aa p.l m)))):=by
 have hx:opI .or .i64 (opI .andNot .i64 (gt (ip O) m 0) (vwr (aa p.l m))) (vrd (aa p.l m))=((stI p O).getD m 0).toInt:=by
  rw[my (hO▸hm),xj,yT,kL,kL,rK hm]
  rfl
 rw[hx,h.old hI hm]
 have h1:(stI p O)[m]? =some ((stI p O).getD m 0):=by simp[thm6 (show m<(stI p O).length by rw[fU];exact hm)]
 have h2:I[m]? =some (I.getD m 0):=by simp[thm6 (show m<I.length by rw[hI];exact hm)]
 constructor
 ·rw[h.ll,vT (by simp[fU,hI];omega)]
  congr 1
  refine List.ext_getElem? fun i=> ?_
  rw[dT]
  simp only[List.getElem?_append,fD,List.length_take,List.length_drop,fU,hI,List.getElem?_take,List.getElem?_drop,Nat.min_eq_left (Nat.le_of_lt hm),Nat.min_eq_left (show m+1<=p.l.length from hm)]
  by_cases h3:m=i
  ·subst h3
   rw[if_pos rfl,if_pos (by omega),if_pos (by omega),if_pos (by omega),h1]
  ·rw[if_neg h3]
   by_cases h4:i<m
   ·rw[if_pos h4,if_pos h4,if_pos (by omega),if_pos (by omega)]
   ·rw[if_neg h4,if_neg (by omega)]
    congr 1
    omega
 ·rw[List.take_add_one,List.take_add_one,h1,h2]
  simp only[ey,h.bb,Option.toList_some,Bool.not_eq_true',beq_eq_false_iff_ne]
  constructor
  ·rintro (h3 | h3) he
   ·exact h3 (List.append_inj_left' he rfl)
   ·have:=List.append_inj_right' he rfl
    simp only[thm5,and_true] at this
    exact h3 (by rw[this])
  ·intro hn
   by_cases h3:(stI p O).take m=I.take m
   ·right
    intro h4
    exact hn (by rw[h3,BitVec.eq_of_toInt_eq h4])
   ·exact .inl h3
theorem Wrote.done {p:Prog} {I O:List BV} {m:Nat} {b:Bool} {L:List (List Int)} (h:Wrote p I O m b L) (hI:I.length=p.l.length) (hm:m=p.l.length):L=ip (stI p O)/\(b=true↔stI p O≠I):=by
 have h1:=h.ll
 have h2:=h.bb
 rw[hm,List.take_of_length_le (by rw[fU];exact Nat.le_refl _),List.take_of_length_le (by rw[hI];exact Nat.le_refl _)] at h2
 rw[hm,List.take_of_length_le (by rw[fU];exact Nat.le_refl _),List.drop_of_length_le (by rw[hI];exact Nat.le_refl _),List.append_nil] at h1
 exact⟨h1,h2⟩
theorem Ins.eta (a:Ins):(⟨a.k,a.op,a.w,a.sz,a.br,a.d,a.s,a.off,a.imm⟩:Ins)=a:=rfl
def rd_Ins (k:Ins->List Dt->List Dt):List Dt->List Dt
 | .z z0::.z z1::.z z2::.z z3::.z z4::.z z5::.z z6::.z z7::.z z8::r=>k ⟨z0,z1,z2,z3,(z4==1),z5,z6,z7,z8⟩ r
 | _=>[]
def Ins.ok (a:Ins):Prop:=inK .i8 a.k=true/\inK .i8 a.op=true/\inK .i8 a.w=true/\inK .i8 a.sz=true/\inK .i8 a.d=true/\inK .i8 a.s=true/\inK .i64 a.off=true/\inK .i64 a.imm=true
def kIns:List CK:=[.int .i8,.int .i8,.int .i8,.int .i8,.bool,.int .i8,.int .i8,.int .i64,.int .i64]
def v_Ins (t:List VK):List VK:=.int .i8::.int .i8::.int .i8::.int .i8::.bool::.int .i8::.int .i8::.int .i64::.int .i64::t
def d_Ins (a:Ins) (t:List Dt):List Dt:=.z a.k::.z a.op::.z a.w::.z a.sz::.z (b2i a.br)::.z a.d::.z a.s::.z a.off::.z a.imm::t
theorem eG {l:List VK} {p:List Dt->Prop} (h:∀a:Ins,Ins.ok a->bC l fun r=>p (d_Ins a r)):bC (v_Ins l) p:=
 fun x0 gx0 x1 gx1 x2 gx2 x3 gx3 x4 x5 gx5 x6 gx6 x7 gx7 x8 gx8=>h ⟨x0,x1,x2,x3,x4,x5,x6,x7,x8⟩ ⟨gx0,gx1,gx2,gx3,gx5,gx6,gx7,gx8⟩
theorem iK (k:Ins->List Dt->List Dt) (a:Ins) (t:List Dt):rd_Ins k (d_Ins a t)=k a t:=by simp only[rd_Ins,d_Ins,b2i_one]
def dd:=And.intro @v_Ins.eq_1 (And.intro @d_Ins.eq_1 (And.intro @rd_Ins.eq_1 (@kIns.eq_1)))
theorem Prog.eta (a:Prog):(⟨a.ctx,a.l⟩:Prog)=a:=rfl
def rd_Prog (k:Prog->List Dt->List Dt):List Dt->List Dt
 | .z z0::.l z1::r=>k ⟨z0,z1⟩ r
 | _=>[]
def Prog.ok (a:Prog):Prop:=inK .i64 a.ctx=true/\RowsIn (kN 9 220090000) a.l
def kProg:List CK:=[.int .i64,.sl (kN 9 220090000) 39]
def v_Prog (t:List VK):List VK:=.int .i64::.list (kN 9 220090000)::t
def d_Prog (a:Prog) (t:List Dt):List Dt:=.z a.ctx::.l a.l::t
theorem eW {l:List VK} {p:List Dt->Prop} (h:∀a:Prog,Prog.ok a->bC l fun r=>p (d_Prog a r)):bC (v_Prog l) p:=
 fun x0 gx0 x1 gx1=>h ⟨x0,x1⟩ ⟨gx0,gx1⟩
theorem sJ (k:Prog->List Dt->List Dt) (a:Prog) (t:List Dt):rd_Prog k (d_Prog a t)=k a t:=rfl
def cC:=And.intro @v_Prog.eq_1 (And.intro @d_Prog.eq_1 (And.intro @rd_Prog.eq_1 (@kProg.eq_1)))
def iX:List C:=[.int .i8 (.lit 0),.int .i8 (.lit 0),.int .i8 (.lit 0),.int .i8 (.lit 0),.bool (.tt false),.int .i8 (.lit 0),.int .i8 (.lit 0),.int .i64 (.lit 0),.int .i64 (.lit 0)]
theorem eD:Tryz.prog.eqGuardType Tryz.prog.depth 39=false:=by kernel_rfl
theorem vy:Tryz.prog.cellsOf 39=9:=by kernel_rfl
theorem vz:Tryz.prog.cellsOf 37=1:=by kernel_rfl
theorem zp:Tryz.prog.cellsOf 4=1:=by kernel_rfl
theorem zD:Tryz.prog.cellsOf 3=1:=by kernel_rfl
theorem am9 (vs:List Value) (hv:aC vs iX):Tryz.prog.keyLits 6 39 vs=some (cg vs):=by
 obtain⟨x0,_,rfl,g0,hv⟩:=ae hv
 obtain⟨x1,_,rfl,g1,hv⟩:=ae hv
 obtain⟨x2,_,rfl,g2,hv⟩:=ae hv
 obtain⟨x3,_,rfl,g3,hv⟩:=ae hv
 obtain⟨x4,_,rfl,hv⟩:=dw hv
 obtain⟨x5,_,rfl,g5,hv⟩:=ae hv
 obtain⟨x6,_,rfl,g6,hv⟩:=ae hv
 obtain⟨x7,_,rfl,g7,hv⟩:=ae hv
 obtain⟨x8,_,rfl,g8,hv⟩:=ae hv
 obtain rfl:=bD hv
 simp[Program.keyLits,Tryz.underlying39,Tryz.underlying37,Tryz.underlying4,Tryz.underlying3,vy,vz,zp,zD,xN,cg,g0,g1,g2,g3,g5,g6,g7,g8]
theorem an7 (vs:List Value) (hv:aC vs iX):(Value.agg vs.toArray).formed Tryz.prog 39=true:=by
 obtain⟨x0,_,rfl,g0,hv⟩:=ae hv
 obtain⟨x1,_,rfl,g1,hv⟩:=ae hv
 obtain⟨x2,_,rfl,g2,hv⟩:=ae hv
 obtain⟨x3,_,rfl,g3,hv⟩:=ae hv
 obtain⟨x4,_,rfl,hv⟩:=dw hv
 obtain⟨x5,_,rfl,g5,hv⟩:=ae hv
 obtain⟨x6,_,rfl,g6,hv⟩:=ae hv
 obtain⟨x7,_,rfl,g7,hv⟩:=ae hv
 obtain⟨x8,_,rfl,g8,hv⟩:=ae hv
 obtain rfl:=bD hv
 kernel_rfl
theorem gQ (vs us:List Value) (hv:aC vs iX) (hu:aC us iX) (w:World):(Op.equal 39 (.agg vs.toArray) (.agg us.toArray)).run Tryz.prog w=.ok (eqVs vs us) w:=
 gq (by kernel_rfl) an7 6 am9 vs us hv hu w
def df:=And.intro Ins.eta (Prog.eta)
theorem fw {p q q2:Prop} (k:q2) (h:p->q=q2:=by intro e;(try simp only[e,df,ai,-eq_self]);rfl):p->q:=fun e=>(h e).symm▸k
def aaO:List (Nat×TI):=[(3,tiq3),
 (4,tiq4),
 (37,dS),
 (39,lO)]
theorem fh:∀t i,(t,i)∈aaO->TIok Tryz.prog t i:=aV (fac (z:=iX) ⟨gQ,eD⟩ fa0) fa0 (by kernel_rfl)
def c_iwi:Cd:=⟨35,[.one (.int .i64),.one (.int .i64),.one (.int .i64)],[.one .bool],rdZ fun n=>rdZ fun a=>rdZ fun b _=>[.z (b2i ((decide (a<=n)&&decide (n<=b))))],T0⟩
def ahN:Tr:=
(.br (.lt (.var 0) (.var 1))
 zlF
(.leaf (.consb (.not (.lt (.var 2) (.var 0))) .nil)))
theorem ad2:c_iwi.Ok Tryz.prog:=
 oks ahN [.int .i64,.int .i64,.int .i64] fh ol0 Tryz.func35<|fun n hn a ha b hb hp U g=>by
 simp only[gS1,Nat.reduceAdd] at g
 simp only[ahN,spQ,rdZ,rdB,rdL,c_iwi,simQ,ab,S1,Nat.reduceSub,Nat.reduceAdd,-eq_self,df,ai,g]
 constructor<;>intro c0
 ·(refine zb ?_;rw[ao];simp at *;omega)
 ·(refine zb ?_;rw[ao];simp at *;omega)
def c_iwb:Cd:=⟨66,[.one (.int .i8),.one (.int .i8),.one (.int .i8)],[.one .bool],rdZ fun n=>rdZ fun a=>rdZ fun b _=>[.z (b2i ((decide (a<=n)&&decide (n<=b))))],T0⟩
def ahO:Tr:=
(.br (.lt (.var 0) (.var 1))
 zlF
(.leaf (.consb (.not (.lt (.var 2) (.var 0))) .nil)))
theorem anS:c_iwb.Ok Tryz.prog:=
 oks ahO [.int .i8,.int .i8,.int .i8] fh ol0 Tryz.func66<|fun n hn a ha b hb hp U g=>by
 simp only[gS1,Nat.reduceAdd] at g
 simp only[ahO,spQ,rdZ,rdB,rdL,c_iwb,simQ,ab,S1,Nat.reduceSub,Nat.reduceAdd,-eq_self,df,ai,g]
 constructor<;>intro c0
 ·(refine zb ?_;rw[ao];simp at *;omega)
 ·(refine zb ?_;rw[ao];simp at *;omega)
def c_isz:Cd:=⟨126,[.one (.int .i8)],[.one .bool],rdZ fun n _=>[.z (b2i (aN n))],T0⟩
def ahP:Tr:=
(.br (.eq (.var 0) (.lit 1))
 zlT
(.br (.eq (.var 0) (.lit 2))
 zlT
(.br (.eq (.var 0) (.lit 4))
 zlT
(.leaf (.consb (.eq (.var 0) (.lit 8)) .nil)))))
theorem aps:c_isz.Ok Tryz.prog:=
 oks ahP [.int .i8] fh ol0 Tryz.func126<|fun n hn hp U g=>by
 simp only[gS1,Nat.reduceAdd] at g
 simp only[ahP,spQ,rdZ,rdB,rdL,c_isz,simQ,ab,S1,Nat.reduceSub,Nat.reduceAdd,-eq_self,df,ai,g]
 constructor<;>intro c0
 ·(refine zb ?_;unfold aN;rw[ao];simp at *;omega)
 constructor<;>intro c1
 ·(refine zb ?_;unfold aN;rw[ao];simp at *;omega)
 constructor<;>intro c2
 ·(refine zb ?_;unfold aN;rw[ao];simp at *;omega)
 ·(refine zb ?_;unfold aN;rw[ao];simp at *;omega)
def c_ibare:Cd:=⟨67,[.agg kIns],[.agg kIns,.one .bool],rd_Ins fun x _=>d_Ins ((cp x).1) [.z (b2i ((cp x).2))],T0⟩
def ajv:E:=(.zs [0,0,0] (.cons (.var 8) (.consb (.bw 9) .nil)))
def ajw:Tr:=(.leaf (.cons (.var 0) (.cons (.lit 0) (.cons (.lit 0) (.cons (.var 3) (.consb (.tt false) (.cons (.lit 0) (.cons (.lit 0) (.vs 7 2 (.consb (.tt false) .nil))))))))))
def afa:Tr:=(.br (.bw 4)
 ajw
(.leaf (.cons (.var 0) (.cons (.lit 0) (.cons (.lit 0) (.cons (.var 3) (.consb (.tt false) (.cons (.lit 0) (.vs 6 2 (.cons (.lit 0) (.consb (.tt false) .nil)))))))))))
def ajx:Tr:=(.br (.lt (.var 5) (.lit 10))
(.br (.eq (.var 1) (.lit 8))
(.br (.bw 4)
 ajw
(.leaf (.cons (.var 0) (.cons (.lit 0) (.cons (.lit 0) (.cons (.var 3) (.consb (.tt false) (.cons (.lit 0) (.vs 6 2 (.cons (.lit 0) (.consb (.eq (.var 8) (.lit 0)) .nil)))))))))))
(.br (.bw 4)
(.leaf (.cons (.var 0) (.cons (.lit 0) (.cons (.lit 0) (.cons (.var 3) (.consb (.tt false) (.cons (.lit 0) (.cons (.lit 0) (.vs 7 2 (.consb (.tt true) .nil))))))))))
(.leaf (.cons (.var 0) (.cons (.lit 0) (.cons (.lit 0) (.cons (.var 3) (.consb (.tt false) (.cons (.lit 0) (.vs 6 2 (.cons (.lit 0) (.consb (.tt true) .nil))))))))))))
 afa)
def qh:Tr:=
(.br (.eq (.var 0) (.lit 0))
(.call 1 [.bool] (.cons (.var 1) (.cons (.lit 0) (.cons (.lit 12) .nil))) 9
(.br (.bw 9)
(.br (.eq (.var 2) (.lit 32))
 ajx
(.br (.eq (.var 2) (.lit 64))
 ajx
 afa))
 afa))
(.br (.eq (.var 0) (.lit 1))
(.call 2 [.bool] (.cons (.var 3) .nil) 9
(.br (.bw 9)
(.leaf (.vs 0 3 (.cons (.lit 0) (.consb (.bw 4) (.zs [0,0,0] (.cons (.var 8) (.consb (.lt (.var 5) (.lit 10)) .nil)))))))
(.leaf (.vs 0 3 (.cons (.lit 0) (.consb (.bw 4) (.zs [0,0,0] (.cons (.var 8) (.consb (.tt false) .nil)))))))))
(.br (.eq (.var 0) (.lit 2))
(.call 2 [.bool] (.cons (.var 3) .nil) 9
(.leaf (.vs 0 3 (.cons (.lit 0) (.consb (.bw 4) ajv)))))
(.br (.eq (.var 0) (.lit 3))
(.call 1 [.bool] (.cons (.var 1) (.cons (.lit 0) (.cons (.lit 10) .nil))) 9
(.br (.bw 4)
(.leaf (.cons (.var 0) (.cons (.lit 0) (.vs 2 2 (.consb (.tt false) ajv)))))
(.leaf (.cons (.var 0) (.cons (.lit 0) (.vs 2 2 (.consb (.tt false) (.cons (.lit 0) (.cons (.var 6) (.cons (.lit 0) (.cons (.lit 0) (.consb (.bw 9) .nil))))))))))))
(.br (.eq (.var 0) (.lit 4))
(.leaf (.vs 0 4 (.consb (.bw 4) (.vs 5 2 (.cons (.lit 0) (.cons (.var 8) (.consb (.tt true) .nil)))))))
(.br (.eq (.var 0) (.lit 5))
(.call 0 [.bool] (.cons (.var 8) (.cons (.lit 0) (.cons (.lit 15) .nil))) 9
(.leaf (.vs 0 4 (.consb (.bw 4) (.vs 5 3 (.cons (.lit 0) (.consb (.bw 9) .nil)))))))
(.br (.eq (.var 0) (.lit 6))
(.leaf (.vs 0 4 (.consb (.bw 4) (.vs 5 4 (.consb (.tt true) .nil)))))
(.leaf (.vs 0 4 (.consb (.bw 4) (.vs 5 4 (.consb (.tt false) .nil))))))))))))
theorem afZ:bp aaO (smN 0 [c_iwi,c_iwb,c_isz]) [(125,Tryz.f125,[],[])] [] [] 200 Tryz.f67 c_ibare.a c_ibare.r (tp c_ibare.r) (v_Ins []) qh:=trI (by kernel_rfl)
theorem alP:c_ibare.Ok Tryz.prog:=
 okc qh (v_Ins []) fh (olc ad2<|olc anS<|olc aps ol0) Tryz.func67 (fnc Tryz.func125 fn0) afZ<|eG fun x hx hp U g=>by
 simp only[dd,gS1,Nat.reduceAdd] at g
 simp only[qh,ajx,afa,ajw,ajv,spQ,c_iwi,c_iwb,c_isz,rdZ,rdB,rdL,c_ibare,dd,simQ,ab,S1,Nat.reduceSub,Nat.reduceAdd,-eq_self,df,ai,g]
 constructor<;>intro c0
 refine fw ?_
 constructor<;>intro c1
 constructor<;>intro c2
 constructor<;>intro c3
 constructor<;>intro c4
 constructor<;>intro c5
 ·(unfold cp immz;simp_all<;>omega)
 ·(unfold cp immz;simp_all<;>omega)
 constructor<;>intro c6
 ·(unfold cp immz;simp_all<;>omega)
 ·(unfold cp immz;simp_all<;>omega)
 constructor<;>intro c7
 ·(unfold cp immz;simp_all<;>omega)
 ·(unfold cp immz;simp_all<;>omega)
 constructor<;>intro c8
 constructor<;>intro c9
 constructor<;>intro c10
 constructor<;>intro c11
 ·(unfold cp immz;simp_all<;>omega)
 ·(unfold cp immz;simp_all<;>omega)
 constructor<;>intro c12
 ·(unfold cp immz;simp_all<;>omega)
 ·(unfold cp immz;simp_all<;>omega)
 constructor<;>intro c13
 ·(unfold cp immz;simp_all<;>omega)
 ·(unfold cp immz;simp_all<;>omega)
 constructor<;>intro c14
 ·(unfold cp immz;simp_all<;>omega)
 ·(unfold cp immz;simp_all<;>omega)
 constructor<;>intro c15
 ·(unfold cp immz;simp_all<;>omega)
 ·(unfold cp immz;simp_all<;>omega)
 constructor<;>intro c16
 refine fw ?_
 constructor<;>intro c17
 ·(unfold cp immz;simp_all<;>omega)
 ·(unfold cp immz;simp_all<;>omega)
 constructor<;>intro c18
 refine fw ?_
 ·(unfold cp immz;simp_all<;>omega)
 constructor<;>intro c19
 refine fw ?_
 constructor<;>intro c20
 ·(unfold cp immz;simp_all<;>omega)
 ·(unfold cp immz;simp_all<;>omega)
 constructor<;>intro c21
 ·(unfold cp immz;simp_all<;>omega)
 constructor<;>intro c22
 refine fw ?_
 ·(unfold cp immz;simp_all<;>omega)
 constructor<;>intro c23
 ·(unfold cp immz;simp_all<;>omega)
 ·(unfold cp immz;simp_all<;>omega)
def c_nmay:Cd:=⟨26,[.agg kIns],[.one .bool],rd_Ins fun x _=>[.z (b2i (imay x))],T0⟩
def aci:Tr:=
(.call 1 [.bool] (.cons (.var 5) (.cons (.lit 0) (.cons (.lit 10) .nil))) 9
(.br (.bw 9)
(.call 1 [.bool] (.cons (.var 6) (.cons (.lit 0) (.cons (.lit 10) .nil))) 10
(.br (.bw 10)
(.call 0 [.bool] (.cons (.var 7) (.cons (.lit (-32768)) (.cons (.lit 32767) .nil))) 11
(.br (.bw 11)
(.call 0 [.bool] (.cons (.var 8) (.cons (.lit (-2147483648)) (.cons (.lit 2147483647) .nil))) 12
(.br (.bw 12)
(.call 2 (kIns++[.bool]) (.vs 0 4 (.consb (.bw 4) (.vs 5 4 .nil))) 13
(.br (.bw 22)
(.leaf (.consb (.and (.eq (.var 13) (.var 0)) (.and (.eq (.var 14) (.lit 0)) (.and (.eq (.var 15) (.lit 0)) (.and (.eq (.var 16) (.lit 0)) (.and (.not (.bw 17)) (.and (.eq (.var 18) (.lit 0)) (.and (.eq (.var 19) (.lit 0)) (.and (.eq (.var 20) (.lit 0)) (.and (.eq (.var 21) (.lit 0)) (.tt true)))))))))) .nil))
 zlF))
 zlF))
 zlF))
 zlF))
 zlF))
theorem adW:c_nmay.Ok Tryz.prog:=
 oks aci (v_Ins []) fh (olc ad2<|olc anS<|olc alP ol0) Tryz.func26<|eG fun x hx hp U g=>by
 simp only[dd,gS1,Nat.reduceAdd] at g
 simp only[aci,spQ,c_iwi,c_iwb,c_ibare,rdZ,rdB,rdL,c_nmay,dd,simQ,ab,S1,Nat.reduceSub,Nat.reduceAdd,-eq_self,df,ai,g]
 refine fw ?_
 constructor<;>intro c0
 refine fw ?_
 constructor<;>intro c1
 refine fw ?_
 constructor<;>intro c2
 refine fw ?_
 constructor<;>intro c3
 refine fw ?_
 constructor<;>intro c4
 ·(unfold imay eN fy;simp_all<;>omega)
 ·(unfold imay eN fy;simp_all<;>omega)
 ·(unfold imay eN fy;simp_all<;>omega)
 ·(unfold imay eN fy;simp_all<;>omega)
 ·(unfold imay eN fy;simp_all<;>omega)
 ·(unfold imay eN fy;simp_all<;>omega)
def c_itgt:Cd:=⟨36,[.one (.int .i64),.agg kIns],[.one (.int .i64),.one .bool],rdZ fun i=>rd_Ins fun x _=>[.z ((itgt i x).1),.z (b2i ((itgt i x).2))],T0⟩
def ae9:Tr:=(.leaf (.cons (.lit 0) (.consb (.tt false) .nil)))
def ajt:E:=(.cons (.lit (-1099511627776)) (.cons (.lit 1099511627776) .nil))
def aju:Tr:=(.call 0 [.bool] (.cons (.var 0) ajt) 10
(.br (.bw 10)
(.call 0 [.bool] (.cons (.var 8) ajt) 11
(.br (.bw 11)
(.leaf (.cons (.bin .add .i64 (.bin .add .i64 (.var 0) (.lit 1)) (.var 8)) (.consb (.tt true) .nil)))
 ae9))
 ae9))
def acG:Tr:=
(.br (.eq (.var 1) (.lit 3))
 aju
(.br (.eq (.var 1) (.lit 4))
 aju
 ae9))
theorem tk:c_itgt.Ok Tryz.prog:=
 oks acG (.int .i64::v_Ins []) fh (olc ad2 ol0) Tryz.func36<|fun i hi=>eG fun x hx hp U g=>by
 simp only[dd,gS1,Nat.reduceAdd] at g
 simp only[acG,aju,ajt,ae9,spQ,c_iwi,rdZ,rdB,rdL,c_itgt,dd,simQ,ab,S1,Nat.reduceSub,Nat.reduceAdd,-eq_self,df,ai,g]
 constructor<;>intro c0
 refine fw ?_
 constructor<;>intro c1
 refine fw ?_
 constructor<;>intro c2
 ·rw[tq (.inl (eqI c0)) c1 c2];try rfl
 ·rw[o7 c2];try rfl
 ·rw[o8 c1];try rfl
 constructor<;>intro c3
 refine fw ?_
 constructor<;>intro c4
 refine fw ?_
 constructor<;>intro c5
 ·rw[tq (.inr (eqI c3)) c4 c5];try rfl
 ·rw[o7 c5];try rfl
 ·rw[o8 c4];try rfl
 ·rw[xK c0 c3];try rfl
def c_iargs:Cd:=⟨41,[.one (.int .i64)],[.one (.int .i64)],rdZ fun n _=>[.z (jF n)],T0⟩
def wI:Tr:=
(.call 0 [.bool] (.cons (.var 0) (.cons (.lit 0) (.cons (.lit 15) .nil))) 1
(.br (.bw 1)
(.leaf (.cons (.bin .rem .i64 (.var 0) (.lit 6)) .nil))
(.leaf (.cons (.lit 0) .nil))))
theorem alQ:c_iargs.Ok Tryz.prog:=
 oks wI [.int .i64] fh (olc ad2 ol0) Tryz.func41<|fun n hn hp U g=>by
 simp only[gS1,Nat.reduceAdd] at g
 simp only[wI,spQ,c_iwi,rdZ,rdB,rdL,c_iargs,simQ,ab,S1,Nat.reduceSub,Nat.reduceAdd,-eq_self,df,ai,g]
 refine fw ?_
 constructor<;>intro c0
 ·rw[alX c0];try rfl
 ·rw[alY c0];try rfl
def noL:List Dt->Bool
 | []=>true
 | .z _::r=>noL r
 | _=>false
theorem uR {L:List (List Int)}:∀{r:List Dt},noL r=true->Dt.l L ∉ r
 | [],_=>by simp
 | .z _::r,h=>by simp[uR (r:=r) h]
 | .l _::r,h=>by simp[noL] at h
def dx (s:Sta):List Int:=[s.r0.k,s.r1.k,s.r2.k,s.r3.k,s.r4.k,s.r5.k,s.r6.k,s.r7.k,s.r8.k,s.r9.k,s.r10.k]
def tnth (s:Sta) (d:Int):Ty:=⟨[s.r0.k,s.r1.k,s.r2.k,s.r3.k,s.r4.k,s.r5.k,s.r6.k,s.r7.k,s.r8.k,s.r9.k,s.r10.k].getD d.toNat 0,[s.r0.ul,s.r1.ul,s.r2.ul,s.r3.ul,s.r4.ul,s.r5.ul,s.r6.ul,s.r7.ul,s.r8.ul,s.r9.ul,s.r10.ul].getD d.toNat 0,[s.r0.uh,s.r1.uh,s.r2.uh,s.r3.uh,s.r4.uh,s.r5.uh,s.r6.uh,s.r7.uh,s.r8.uh,s.r9.uh,s.r10.uh].getD d.toNat 0,[s.r0.sl,s.r1.sl,s.r2.sl,s.r3.sl,s.r4.sl,s.r5.sl,s.r6.sl,s.r7.sl,s.r8.sl,s.r9.sl,s.r10.sl].getD d.toNat 0,[s.r0.sh,s.r1.sh,s.r2.sh,s.r3.sh,s.r4.sh,s.r5.sh,s.r6.sh,s.r7.sh,s.r8.sh,s.r9.sh,s.r10.sh].getD d.toNat 0,[s.r0.v,s.r1.v,s.r2.v,s.r3.v,s.r4.v,s.r5.v,s.r6.v,s.r7.v,s.r8.v,s.r9.v,s.r10.v].getD d.toNat 0,[s.r0.m,s.r1.m,s.r2.m,s.r3.m,s.r4.m,s.r5.m,s.r6.m,s.r7.m,s.r8.m,s.r9.m,s.r10.m].getD d.toNat 0,[s.r0.lo,s.r1.lo,s.r2.lo,s.r3.lo,s.r4.lo,s.r5.lo,s.r6.lo,s.r7.lo,s.r8.lo,s.r9.lo,s.r10.lo].getD d.toNat 0,[s.r0.hi,s.r1.hi,s.r2.hi,s.r3.hi,s.r4.hi,s.r5.hi,s.r6.hi,s.r7.hi,s.r8.hi,s.r9.hi,s.r10.hi].getD d.toNat 0⟩
def tite (c:Bool) (a b:Ty):Ty:=⟨if c=true then a.k else b.k,if c=true then a.ul else b.ul,if c=true then a.uh else b.uh,if c=true then a.sl else b.sl,if c=true then a.sh else b.sh,if c=true then a.v else b.v,if c=true then a.m else b.m,if c=true then a.lo else b.lo,if c=true then a.hi else b.hi⟩
def sreg (s:Sta) (d:Int) (t:Ty):Sta:=⟨tite (d==0) t s.r0,tite (d==1) t s.r1,tite (d==2) t s.r2,tite (d==3) t s.r3,tite (d==4) t s.r4,tite (d==5) t s.r5,tite (d==6) t s.r6,tite (d==7) t s.r7,tite (d==8) t s.r8,tite (d==9) t s.r9,tite (d==10) t s.r10,s.s0,s.s1,s.s2,s.s3,s.s4,s.s5,s.s6,s.s7⟩
def tyL (t:Ty) (r:List Int):List Int:=t.k::t.ul::t.uh::t.sl::t.sh::t.v::t.m::t.lo::t.hi::r
def staL (s:Sta):List Int:=tyL s.r0 (tyL s.r1 (tyL s.r2 (tyL s.r3 (tyL s.r4 (tyL s.r5 (tyL s.r6 (tyL s.r7 (tyL s.r8 (tyL s.r9 (tyL s.r10 (tyL s.s0 (tyL s.s1 (tyL s.s2 (tyL s.s3 (tyL s.s4 (tyL s.s5 (tyL s.s6 (tyL s.s7 ([])))))))))))))))))))
def gY (s:Sta) (n:Nat):Bool:=(List.range 11).any fun k=>n.testBit k&&(dx s).getD k 0==0
def bR (x:Ins) (s:Sta):Ty:=if x.br=true then tnth s x.s else tsc (vone (IntKind.u64.wrap x.imm))
theorem pd {p:Prog} {i:Int} (hl:p.l.length<=maxLen) (h:(cY p).2=0) (h0:0<=i) (h1:i<(p.l.length:Int)):imay (aa p.l i)=true:=by
 obtain⟨n,rfl⟩:=jv h0
 have q:=(nQ hl h).2.1 n (by omega)
 cases e:imay (aa p.l (n:Int)) with
 | true=>rfl
 | false=>rw[oq e] at q;cases q
theorem uU:∀n,n<2048->0<n->Lib.ctz 64 n<11/\n.testBit (Lib.ctz 64 n)=true/\n &&& (n-1)<n/\opI .and .i64 (n:Int) (opI .sub .i64 (n:Int) 1)=((n &&& (n-1):Nat):Int)/\IntKind.u64.wrap (n:Int)=(n:Int)/\
  ∀k,k<11->(n &&& (n-1)).testBit k=(n.testBit k &&!(k==Lib.ctz 64 n)):=by decide +kernel
structure UInv (s:Sta) (R m:Nat):Prop where
 lt:m<2048
 sub:∀k,k<11->m.testBit k=true->R.testBit k=true
 set:∀k,k<11->R.testBit k=true->m.testBit k=false->(dx s).getD k 0≠0
theorem UInv.init {s:Sta} {R:Nat} (h:R<2048):UInv s R R:=⟨h,fun _ _ h=>h,fun k _ h1 h2=>by rw[h1] at h2;cases h2⟩
theorem UInv.next {s:Sta} {R m:Nat} (h:UInv s R m) (hm:0<m) (hk:((dx s).getD (tzI (IntKind.u64.wrap (m:Int))).toNat 0==0)=false):
  ∃m':Nat,opI .and .i64 (m:Int) (opI .sub .i64 (m:Int) 1)=(m':Int)/\UInv s R m'/\m'<m:=by
 obtain⟨b1,b2,b3,b4,b5,b6⟩:=uU m h.lt hm
 rw[b5] at hk
 have hk:=neI hk
 refine⟨m &&& (m-1),b4,⟨Nat.lt_trans b3 h.lt,fun k k1 k2=>h.sub k k1 ?_,fun k k1 k2 k3=> ?_⟩,b3⟩
 ·rw[b6 k k1,thm0] at k2;exact k2.1
 ·rw[b6 k k1] at k3
  cases e:m.testBit k with
  | false=>exact h.set k k1 k2 e
  | true=>
    rw[e] at k3
    have:k=Lib.ctz 64 m:=by simpa using k3
    rw[this];exact hk
theorem UInv.bad {s:Sta} {R m:Nat} (h:UInv s R m) (hm:0<m) (hk:((dx s).getD (tzI (IntKind.u64.wrap (m:Int))).toNat 0==0)=true):gY s R=true:=by
 obtain⟨b1,b2,b3,b4,b5,b6⟩:=uU m h.lt hm
 rw[b5] at hk
 unfold gY
 rw[List.any_eq_true]
 refine⟨Lib.ctz 64 m,List.mem_range.2 b1,?_⟩
 rw[h.sub _ b1 b2]
 exact hk
theorem UInv.good {s:Sta} {R:Nat} (h:UInv s R 0):gY s R=false:=by
 unfold gY
 rw[List.any_eq_false]
 intro k hk
 have k1:=List.mem_range.1 hk
 cases e:R.testBit k with
 | false=>simp
 | true=>
   have:=h.set k k1 e (Nat.zero_testBit k)
   simpa using this
theorem aoT {m:Nat} (hm:0<m) (h:m<2048):0<=tzI (IntKind.u64.wrap (m:Int))/\tzI (IntKind.u64.wrap (m:Int))<11:=by
 obtain⟨b1,_,_,_,b5,_⟩:=uU m h hm
 rw[b5]
 unfold tzI
 rw[ez]
 omega
def tyAt (T:List (List Int)) (i:Int) (o:Nat):Ty:=⟨gt T i o,gt T i (o+1),gt T i (o+2),gt T i (o+3),gt T i (o+4),gt T i (o+5),gt T i (o+6),gt T i (o+7),gt T i (o+8)⟩
def amx (T:List (List Int)) (i:Int):Sta:=⟨tyAt T i 1,tyAt T i 10,tyAt T i 19,tyAt T i 28,tyAt T i 37,tyAt T i 46,tyAt T i 55,tyAt T i 64,tyAt T i 73,tyAt T i 82,tyAt T i 91,tyAt T i 100,tyAt T i 109,tyAt T i 118,tyAt T i 127,tyAt T i 136,tyAt T i 145,tyAt T i 154,tyAt T i 163⟩
def alo (t:Ty) (x:Ins):Int:=opI .add .i64 t.lo x.off
def ahi (t:Ty) (x:Ins):Int:=opI .add .i64 t.hi x.off
def vld (x:Ins) (s:Sta) (t:Ty):Sta×Int:=
 if t.k=3 then(sreg (sreg s x.d (tsc (vbyt x.sz))) x.d (mS (sreg s x.d (tsc (vbyt x.sz))) (alo t x) (ahi t x) x.sz),mT (sreg s x.d (tsc (vbyt x.sz))) (alo t x) (ahi t x) x.sz)
 else(sreg s x.d (tsc (vbyt x.sz)),0)
def vsv (x:Ins) (s:Sta) (t:Ty):Sta×Int:=
 if t.k=3 then(hJ s (alo t x) (ahi t x) x.sz (tnth s x.s),mO s (alo t x) (ahi t x) x.sz (tnth s x.s)) else(s,0)
def aoS (s:Sta):Sta:={s with r0:=ea,r1:=tnil,r2:=tnil,r3:=tnil,r4:=tnil,r5:=tnil}
def vmid (p:Prog) (x:Ins) (s:Sta):Sta×Int:=
 if x.k=0 then(sreg s x.d (valu x (tnth s x.d) (bR x s)),0)
 else if x.k=1 then(if ax p.ctx (tnth s x.s) x.off x.sz=true then vld x s (tnth s x.s) else(s,111))
 else if x.k=2 then(if ax p.ctx (tnth s x.d) x.off x.sz=true then vsv x s (tnth s x.d) else(s,111))
 else if x.k=5 then(aoS s,0)
 else(s,0)
def vway (s:Sta) (d:Int) (a b:Ty) (tells:Bool) (go cc:Int) (known:Bool):List (Int×Sta):=
 if(tells&&known)=true then(if vgok cc a.s b.s=true then[(go,sreg s d (tsc (vgiv cc a.s b.s)))] else[]) else[(go,s)]
def iY (x:Ins) (s:Sta) (b:Ty):Bool:=x.k==3&&((tnth s x.d).k==1&&b.k==1)
def gz (i:Int) (x:Ins) (s:Sta) (b:Ty):List (Int×Sta):=if x.k=4\/x.k=6 then[] else vway s x.d (tnth s x.d) b (iY x s b) (opI .add .i64 i 1) (dr x.op) (dh x.op)
def jQ (i:Int) (x:Ins) (s:Sta) (b:Ty):List (Int×Sta):=if(itgt i x).2=true then vway s x.d (tnth s x.d) b (iY x s b) (itgt i x).1 x.op true else[]
def dy (p:Prog) (i:Int) (s:Sta):List (Int×Sta)×Int:=
 if gY s (vrd (aa p.l i)).toNat=true then([],110)
 else if(vmid p (aa p.l i) s).2=0 then(gz i (aa p.l i) (vmid p (aa p.l i) s).1 (bR (aa p.l i) s)++jQ i (aa p.l i) (vmid p (aa p.l i) s).1 (bR (aa p.l i) s),0)
 else([],(vmid p (aa p.l i) s).2)
def sRow (q:Int×Sta):List Int:=q.1::staL q.2
def aM (p:Prog) (i:Int) (s:Sta):List (List Int)×Int:=
 if(cY p).2=0 then(if((0<=i/\i<p.l.length)/\smay s=true) then((dy p i s).1.map fun q=>q.1::staL q.2,(dy p i s).2) else([],2)) else([],(cY p).2)
structure VR where
 w:Int
 T:List (List Int)
 g:List (List Int)
def vbit (w n:Int):Int:=opI .or .u64 w (opI .shl .u64 1 n)
def vjn (r:VR) (q:Int×Sta):Sta:=aoY (decide (8<gt r.g q.1 0)) (amx r.T q.1) q.2
def vput (r:VR) (q:Int×Sta):VR:=
 if gt r.T q.1 0=1 then(if staL (vjn r q)=staL (amx r.T q.1) then r else⟨vbit r.w q.1,r.T.set q.1.toNat (1::staL (vjn r q)),st r.g q.1 0 (opI .add .i64 (gt r.g q.1 0) 1)⟩)
 else⟨vbit r.w q.1,r.T.set q.1.toNat (1::staL q.2),r.g⟩
def aoQ (r:VR):VR:=⟨opI .and .u64 r.w (opI .sub .u64 r.w 1),r.T,r.g⟩
def vini:VR:=⟨1,(List.replicate 64 (List.replicate 172 0)).set 0 (1::staL ahw),List.replicate 64 [0]⟩
theorem aaZ {w:Int} (h0:0<=w) (h1:w<=18446744073709551615) {i:Nat} (hi:i<64):tb w i=w.toNat.testBit i:=by
 obtain⟨n,rfl⟩:=jv h0
 unfold tb
 rw[BitVec.ofInt_natCast,BitVec.getLsbD_ofNat,ez]
 simp[hi]
theorem aey {x:Nat} (h0:0<x) (h:x<2 ^ 64):Lib.ctz 64 x<64/\x.testBit (Lib.ctz 64 x)=true/\∀j,(x &&& (x-1)).testBit j=(x.testBit j &&!(j==Lib.ctz 64 x)):=by
 obtain⟨m,hm,hk⟩:=Lib.ctzFrom_spec 64 x h0 h
 have e:Lib.ctz 64 x=Lib.ctzFrom 64 x:=if_neg (by omega)
 rw[e]
 generalize Lib.ctzFrom 64 x=c at hm hk
 have hp:0<2 ^ c:=Nat.two_pow_pos c
 have h1:x=2 ^ c*(2*m+1)+0:=by omega
 have h2:x-1=2 ^ c*(2*m)+(2 ^ c-1):=by rw[hm,Nat.mul_succ];omega
 have t1:∀j,x.testBit j=if j<c then false else(2*m+1).testBit (j-c):=fun j=>by
  rw[h1,Nat.testBit_two_pow_mul_add _ hp]
  split
  ·simp
  ·rfl
 have t2:∀j,(x-1).testBit j=if j<c then(2 ^ c-1).testBit j else(2*m).testBit (j-c):=fun j=>by
  rw[h2,Nat.testBit_two_pow_mul_add _ (by omega)]
 have b0:(2*m+1).testBit 0=true:=by simp
 have b1:(2*m).testBit 0=false:=by simp
 have bs:∀d,(2*m+1).testBit (d+1)=m.testBit d/\(2*m).testBit (d+1)=m.testBit d:=fun d=>by
  rw[Nat.testBit_succ,Nat.testBit_succ,show(2*m+1) / 2=m by omega,show 2*m / 2=m by omega]
  exact⟨rfl,rfl⟩
 refine⟨hk,by rw[t1,if_neg (Nat.lt_irrefl c),Nat.sub_self,b0],fun j=> ?_⟩
 rw[Nat.testBit_and,t1,t2]
 by_cases hj:j<c
 ·rw[if_pos hj];simp
 ·rw[if_neg hj,if_neg hj]
  by_cases hjc:j=c
  ·rw[hjc,Nat.sub_self,b0,b1];simp
  ·obtain⟨d,hd⟩:∃d,j-c=d+1:=⟨j-c-1,by omega⟩
   rw[hd,(bs d).1,(bs d).2,show(j==c)=false by simp[hjc]]
   cases m.testBit d<;>rfl
theorem ago {w:Int} (h0:0<w) (h1:w<=18446744073709551615):∃k:Nat,tzI w=(k:Int)/\k<64/\tb w k=true/\∀j,j<64->tb (opI .and .u64 w (opI .sub .u64 w 1)) j=(tb w j &&!(j==k)):=by
 obtain⟨n,rfl⟩:=jv (Int.le_of_lt h0)
 obtain⟨c1,c2,c3⟩:=aey (x:=n) (by omega) (by omega)
 refine⟨Lib.ctz 64 n,rfl,c1,by rw[aaZ (by omega) h1 c1];exact c2,fun j hj=> ?_⟩
 have e:opI .sub .u64 (n:Int) 1=((n-1:Nat):Int):=by
  show IntKind.u64.wrap _=_
  rw[bc];omega
 rw[e]
 show tb (bits .and .u64 _ _) j=_
 rw[aa0,aaZ (by omega) h1 hj,aaZ (by omega) (by omega) hj,<-Nat.testBit_and,ez,ez]
 exact c3 j
theorem akj {w:Int} {n:Nat} (hn:n<64) {j:Nat} (hj:j<64):tb (vbit w n) j=(tb w j||j==n):=by
 show tb (bits .or .u64 _ _) j=_
 rw[afs]
 have e:opI .shl .u64 1 (n:Int)=((2 ^ n:Nat):Int):=by
  show IntKind.u64.wrap (1*2 ^ min (n:Int).toNat 64)=_
  rw[bc,ez,Nat.min_eq_left (by omega),Int.one_mul]
  have h2:2 ^ n<2 ^ 64:=Nat.pow_lt_pow_right (by decide) hn
  have h3:((2 ^ n:Nat):Int)=(2:Int) ^ n:=Int.natCast_pow 2 n
  rw[<-h3]
  clear h3
  generalize (2:Nat) ^ n=z at h2 ⊢
  have h4:z<18446744073709551616:=h2
  omega
 rw[e]
 have h2:2 ^ n<2 ^ 64:=Nat.pow_lt_pow_right (by decide) hn
 rw[aaZ (Int.natCast_nonneg _) (by omega) hj,ez,Nat.testBit_two_pow]
 congr 1
 rw[ao,ba,aZ]
 exact eq_comm
structure VI (p:Prog) (r:VR):Prop where
 w:0<=r.w/\r.w<=18446744073709551615
 T:r.T.length=64
 g:r.g.length=64
 on:∀k:Nat,k<64->tb r.w k=true->k<p.l.length/\gt r.T k 0=1
theorem an2 {T:List (List Int)} {n:Nat} {row:List Int} (k:Nat) (c:Nat) (hn:n<T.length):gt (T.set n row) (k:Int) c=if k=n then row.getD c 0 else gt T k c:=by
 unfold gt
 rw[ez]
 have e:∀T:List (List Int),T.getD k []=(T[k]?).getD []:=fun T=>eb
 rw[e,e]
 split
 ·rename_i e;rw[e,List.getElem?_set_self hn];rfl
 ·rename_i e;rw[List.getElem?_set_ne (fun e2=>e e2.symm)]
theorem yl (op:BinOp) (a b:Int):0<=bits op .u64 a b/\bits op .u64 a b<=18446744073709551615:=by
 have:=xO op .u64 a b
 simp[inK,IntKind.min,IntKind.max,IntKind.signed,IntKind.bits] at this
 omega
theorem VI.lay {p:Prog} {r:VR} (h:VI p r) {n:Nat} (hn:n<p.l.length) (hl:p.l.length<=64) (row:List Int) (g:List (List Int)) (hg:g.length=64):VI p ⟨vbit r.w n,r.T.set n (1::row),g⟩ where
 w:=yl .or _ _
 T:=by rw[List.length_set];exact h.T
 g:=hg
 on k hk hb:=by
  rw[akj (by omega) hk,ey,aZ] at hb
  rw[an2 k 0 (by rw[h.T];omega)]
  split
  ·rename_i e;rw[e];exact⟨hn,rfl⟩
  ·rename_i e
   exact h.on k hk (hb.resolve_right e)
theorem VI.put {p:Prog} {r:VR} (h:VI p r) {q:Int×Sta} (h0:0<=q.1/\q.1<(p.l.length:Int)) (hl:p.l.length<=64):VI p (vput r q):=by
 obtain⟨n,hn⟩:=jv h0.1
 unfold vput
 rw[hn,ez]
 split
 ·split
  ·exact h
  ·exact h.lay (by omega) hl _ _ (by rw[gj];exact h.g)
 ·exact h.lay (by omega) hl _ _ h.g
theorem VI.next {p:Prog} {r:VR} (h:VI p r) (hw:r.w≠0):VI p (aoQ r)/\∃k:Nat,tzI r.w=(k:Int)/\k<64/\k<p.l.length/\gt r.T k 0=1:=by
 obtain⟨k,h1,h2,h3,h4⟩:=ago (by have:=h.w;omega) h.w.2
 refine⟨⟨yl .and _ _,h.T,h.g,fun j hj hb=> ?_⟩,k,h1,h2,h.on k h2 h3⟩
 have hb:tb (opI .and .u64 r.w (opI .sub .u64 r.w 1)) j=true:=hb
 rw[h4 j hj,thm0] at hb
 exact h.on j hj hb.1
theorem VI.ini {p:Prog} (hl:1<=p.l.length):VI p vini where
 w:=by decide
 T:=by unfold vini;simp
 g:=by unfold vini;simp
 on k hk hb:=by
  have h1:tb 1 k=true:=hb
  rw[aaZ (by decide) (by decide) hk] at h1
  have:k=0:=by
   cases k with
   | zero=>rfl
   | succ k=>rw[show Int.toNat 1=1 from rfl,Nat.testBit_succ] at h1;simp at h1
  subst this
  exact⟨hl,rfl⟩
theorem aeN {d:Int} (h0:0<=d) (h1:d<=10):∃n:Nat,bit1 d=(n:Int)/\n<2048:=by
 obtain⟨n,rfl⟩:=jv h0
 have:n<=10:=by omega
 have key:∀n,n<11->∃m:Nat,m<2048/\bit1 (n:Nat)=(m:Int):=by decide +kernel
 obtain⟨m,h2,h3⟩:=key n (by omega)
 exact⟨m,h3,h2⟩
theorem amT:∀d,d<11->∀s,s<11->∃m:Nat,m<2048/\opI .or .i64 (bit1 (d:Nat)) (bit1 (s:Nat))=(m:Int):=by decide +kernel
theorem amV:∀d,d<11->∃m:Nat,m<2048/\opI .or .i64 (bit1 (d:Nat)) 0=(m:Int):=by decide +kernel
theorem amh:∀a,a<6->∃m:Nat,m<2048/\opI .sub .i64 (opI .shl .i64 1 (opI .add .i64 (a:Nat) 1)) 2=(m:Int):=by decide +kernel
theorem ahj {x:Ins} (h:imay x=true):∃R:Nat,vrd x=(R:Int)/\R<2048:=by
 have b:=cF h
 obtain⟨d,hd⟩:∃d:Nat,x.d=d:=⟨x.d.toNat,by omega⟩
 obtain⟨s,hs⟩:∃s:Nat,x.s=s:=⟨x.s.toNat,by omega⟩
 have two:∃m:Nat,opI .or .i64 (bit1 x.d) (if x.br=true then bit1 x.s else 0)=(m:Int)/\m<2048:=by
  rw[hd,hs]
  split
  ·obtain⟨m,h1,h2⟩:=amT d (by omega) s (by omega);exact⟨m,h2,h1⟩
  ·obtain⟨m,h1,h2⟩:=amV d (by omega);exact⟨m,h2,h1⟩
 unfold vrd
 rw[if_pos h]
 split
 ·split
  ·split
   ·exact aeN b.2.2.1 b.2.2.2.1
   ·exact⟨0,rfl,by decide⟩
  ·exact two
 split
 ·exact aeN b.2.2.1 b.2.2.2.1
 split
 ·rw[hd,hs]
  obtain⟨m,h1,h2⟩:=amT d (by omega) s (by omega)
  exact⟨m,h2,h1⟩
 split
 ·exact two
 split
 ·have:=iQ x.imm
  obtain⟨a,ha⟩:∃a:Nat,jF x.imm=a:=⟨(jF x.imm).toNat,by omega⟩
  rw[ha]
  obtain⟨m,h1,h2⟩:=amh a (by omega)
  exact⟨m,h2,h1⟩
 split
 ·exact⟨1,rfl,by decide⟩
 ·exact⟨0,rfl,by decide⟩
def jalu (x:Ins) (a b:Ty):Ty:=if x.op=11/\x.w=64 then b else eX x.op x.w (if x.op=11\/x.op=8 then b else a) (aluB x b)
theorem ad4 (x:Ins) (a b:Ty):jalu x a (if x.op=8 then a else b)=valu x a b:=by
 unfold jalu valu aluA aluB
 by_cases h:x.op=8
 ·rw[if_pos h,if_neg (fun e=>by have:=e.1;omega),if_pos (.inr h),if_pos h,if_neg (fun e=>by have:=e.1;omega),if_neg (by omega),if_pos h]
 ·rw[if_neg h]
  by_cases h1:x.op=11/\x.w=64
  ·rw[if_pos h1,if_pos h1]
  ·rw[if_neg h1,if_neg h1,if_neg h]
   by_cases h2:x.op=11
   ·rw[if_pos (.inl h2),if_pos h2]
   ·rw[if_neg (by omega),if_neg h2]
section
variable {x:Ins} {a b t:Ty} {s:Sc}
theorem ja_m (h:(x.op==11&&x.w==64)=true):jalu x a b=b:=if_pos (by rw[thm0] at h;exact⟨eqI h.1,eqI h.2⟩)
theorem ja_o (h2:(x.op==11&&x.w==64)=false) (h:(x.op==11)=true):jalu x a b=eX x.op x.w b b:=by
 unfold jalu aluB
 rw[h,Bool.true_and] at h2
 rw[if_neg (fun e=>neI h2 e.2),if_pos (.inl (eqI h)),if_neg (by have:=eqI h;omega)]
theorem ja_n (h:(x.op==11)=false) (h2:(x.op==8)=true):jalu x a b=eX x.op x.w b (tsc (vone 0)):=by
 unfold jalu aluB
 rw[if_neg (fun e=>neI h e.1),if_pos (.inr (eqI h2)),if_pos (eqI h2)]
theorem ja_e (h:(x.op==11)=false) (h2:(x.op==8)=false):jalu x a b=eX x.op x.w a b:=by
 unfold jalu aluB
 rw[if_neg (fun e=>neI h e.1),if_neg (fun e=>e.elim (neI h) (neI h2)),if_neg (neI h2)]
theorem of_9 (h:tptr a=true\/tptr b=true) {op w:Int} (hw:(w==32)=true):eX op w a b=tsc (vbyt 4):=of_2 h (by rw[eqI hw];rfl)
theorem ud (h:tok a=true) (hp:tptr a=true):a.lo<=a.hi /\ -1048576<=a.lo/\a.hi<=1048576:=by
 unfold tptr at hp
 simp only[ey,aZ] at hp
 unfold tok at h
 rw[if_neg (by omega),if_neg (by omega),if_pos hp] at h
 simp only[thm0,ba] at h
 exact h.2
theorem amt (h:tok a=true) (hp:tptr a=false):a.s.sl<=a.s.sh:=by
 unfold tptr at hp
 simp only[Bool.or_eq_false_iff,beq_eq_false_iff_ne,ne_eq] at hp
 unfold tok at h
 split at h
 ·unfold cv at h
  simp only[thm0,aZ] at h
  show a.sl<=a.sh
  omega
 ·split at h
  ·simp only[thm0] at h
   have q:=h.1
   unfold vmay at q
   rw[thm0] at q
   have q1:=(cy _).1 q.1
   exact q1.2
  ·rw[if_neg (by omega)] at h;cases h
theorem adq (ha:tok a=true) (pa:tptr a=true) (hb:tok b=true) (pb:tptr b=false):a.lo<=a.hi /\ -1048576<=a.lo/\a.hi<=1048576/\b.s.sl<=b.s.sh:=
 ⟨(ud ha pa).1,(ud ha pa).2.1,(ud ha pa).2.2,amt hb pb⟩
theorem afj:(eI t s true).lo=opI .sub .i64 t.lo s.sh:=by
 show IntKind.i64.wrap (t.lo+IntKind.i64.wrap (0-s.sh))=IntKind.i64.wrap (t.lo-s.sh)
 rw[aL,aL,aL];omega
theorem afk:(eI t s true).hi=opI .sub .i64 t.hi s.sl:=by
 show IntKind.i64.wrap (t.hi+IntKind.i64.wrap (0-s.sl))=IntKind.i64.wrap (t.hi-s.sl)
 rw[aL,aL,aL];omega
theorem jm_1 (h:opI .sub .i64 t.lo s.sh < -1048576):fi t s true=ea:=cf (.inr (.inr (.inl (by rw[afj];exact h))))
theorem jm_2 (h:1048576<opI .sub .i64 t.hi s.sl):fi t s true=ea:=cf (.inr (.inr (.inr (.inr (.inr (by rw[afk];exact h))))))
theorem jm_3 (hp:t.lo<=t.hi /\ -1048576<=t.lo/\t.hi<=1048576/\s.sl<=s.sh) (h0:¬s.sl < -1048576) (h1:¬1048576<s.sh) (h2:¬opI .sub .i64 t.lo s.sh < -1048576) (h3:¬1048576<opI .sub .i64 t.hi s.sl):
  fi t s true=⟨t.k,t.ul,t.uh,t.sl,t.sh,t.v,t.m,opI .sub .i64 t.lo s.sh,opI .sub .i64 t.hi s.sl⟩:=by
 have e1:opI .sub .i64 t.lo s.sh=t.lo-s.sh:=by
  show IntKind.i64.wrap _=_
  rw[aL];omega
 have e2:opI .sub .i64 t.hi s.sl=t.hi-s.sl:=by
  show IntKind.i64.wrap _=_
  rw[aL];omega
 rw[lJ h0 h1 (by rw[afj];exact h2) (by rw[afj,e1];omega) (by rw[afk,e2];omega) (by rw[afk];exact h3),<-afj,<-afk];rfl
theorem afq:(eI t s false).lo=opI .add .i64 t.lo s.sl:=by
 show IntKind.i64.wrap (t.lo+mlo s false)=_
 unfold mlo
 rw[if_neg (by simp)];rfl
theorem afr:(eI t s false).hi=opI .add .i64 t.hi s.sh:=by
 show IntKind.i64.wrap (t.hi+mhi s false)=_
 unfold mhi
 rw[if_neg (by simp)];rfl
theorem jm_4 (h:opI .add .i64 t.lo s.sl < -1048576):fi t s false=ea:=cf (.inr (.inr (.inl (by rw[afq];exact h))))
theorem jm_5 (h:1048576<opI .add .i64 t.hi s.sh):fi t s false=ea:=cf (.inr (.inr (.inr (.inr (.inr (by rw[afr];exact h))))))
theorem jm_6 (hp:t.lo<=t.hi /\ -1048576<=t.lo/\t.hi<=1048576/\s.sl<=s.sh) (h0:¬s.sl < -1048576) (h1:¬1048576<s.sh) (h2:¬opI .add .i64 t.lo s.sl < -1048576) (h3:¬1048576<opI .add .i64 t.hi s.sh):
  fi t s false=⟨t.k,t.ul,t.uh,t.sl,t.sh,t.v,t.m,opI .add .i64 t.lo s.sl,opI .add .i64 t.hi s.sh⟩:=by
 have e1:opI .add .i64 t.lo s.sl=t.lo+s.sl:=by
  show IntKind.i64.wrap _=_
  rw[aL];omega
 have e2:opI .add .i64 t.hi s.sh=t.hi+s.sh:=by
  show IntKind.i64.wrap _=_
  rw[aL];omega
 rw[lJ h0 h1 (by rw[afq];exact h2) (by rw[afq,e1];omega) (by rw[afr,e2];omega) (by rw[afr];exact h3),<-afq,<-afr];rfl
def wg (t:Ty) (off size:Int):Bool:=tptr t&&(aN size&&(far2 off&&(decide (-1048576<=t.lo)&&(decide (t.hi<=1048576)&&decide (t.lo<=t.hi)))))
variable {c off size:Int}
theorem aoP (h:(!wg t off size)=true):ax c t off size=false:=by
 cases e:ax c t off size with
 | false=>rfl
 | true=>
   unfold ax far2 at e
   unfold wg far2 at h
   simp only[thm0,ba] at e
   simp only[Bool.not_eq_true',Bool.and_eq_false_iff,decide_eq_false_iff_not] at h
   rcases h with h | h | (h | h) | h | h | h
   ·rw[e.1] at h;cases h
   ·rw[e.2.1] at h;cases h
   all_goals omega
theorem ahh (h:(!wg t off size)=false):ax c t off size=(!decide (opI .add .i64 t.lo off<0) &&!decide ((if t.k=2 then c else 64)<opI .add .i64 (opI .add .i64 t.hi off) size)):=by
 unfold wg far2 at h
 simp only[Bool.not_eq_false',thm0,ba] at h
 obtain⟨h1,h2,⟨h3,h4⟩,h5,h6,h7⟩:=h
 have hs:1<=size/\size<=8:=by
  unfold aN at h2
  simp only[ey,aZ] at h2
  omega
 have e1:opI .add .i64 t.lo off=t.lo+off:=by
  show IntKind.i64.wrap _=_
  rw[aL];omega
 have e2:opI .add .i64 t.hi off=t.hi+off:=by
  show IntKind.i64.wrap _=_
  rw[aL];omega
 have e3:opI .add .i64 (t.hi+off) size=t.hi+off+size:=by
  show IntKind.i64.wrap _=_
  rw[aL];omega
 rw[e1,e2,e3]
 unfold ax far2
 rw[h1,h2,ao]
 simp only[Bool.true_and,thm0,ba,Bool.not_eq_true',decide_eq_false_iff_not]
 generalize (if t.k=2 then c else 64)=n
 omega
end
def qO (x:Ins) (i n:Int) (s:Sta) (b:Ty):List (List Int):=
 (vway s x.d (tnth s x.d) b ((tnth s x.d).k==1&&b.k==1) (opI .add .i64 i 1) (dr x.op) (dh x.op)++vway s x.d (tnth s x.d) b ((tnth s x.d).k==1&&b.k==1) n x.op true).map sRow
def be:=And.intro Kn.eta (And.intro Pi.eta (And.intro Pu.eta (And.intro Rg.eta (And.intro Sc.eta (And.intro Sc.eta_r (And.intro Sc.eta_k (Sc.eta_2)))))))
theorem bQ {p q q2:Prop} (k:q2) (h:p->q=q2:=by intro e;(try simp only[e,be,-eq_self]);rfl):p->q:=fun e=>(h e).symm▸k
def akb:List (Nat×TI):=[(2,tiq2),
 (3,tiq3),
 (37,dS),
 (42,dR),
 (44,ew),
 (46,fR),
 (48,aaU)]
theorem ff:∀t i,(t,i)∈akb->TIok Tryz.prog t i:=aV fa0 fa0 (by kernel_rfl)
def c_vcom:Cd:=⟨203,[.agg kRg],[.agg kKn],rd_Rg fun a _=>d_Kn (kcom a) [],T0⟩
def ajs:E:=(.bin .sub .u64 (.bin .shl .u64 (.lit 1) (.bin .sub .i64 (.lit 64) (.var 4))) (.lit 1))
def abP:Tr:=
(.call 0 [.int .i64] (.cons (.bin .xor .u64 (.var 0) (.var 1)) .nil) 4
(.br (.lt (.lit 0) (.var 4))
(.br (.lt (.bin .sub .i64 (.lit 64) (.var 4)) (.lit 0))
.panic
(.leaf (.cons (.bin .andNot .u64 (.var 0) ajs) (.cons ajs .nil))))
(.leaf (.cons (.bin .andNot .u64 (.var 0) (.lit 18446744073709551615)) (.cons (.lit 18446744073709551615) .nil)))))
theorem anq:c_vcom.Ok Tryz.prog:=
 oks abP (v_Rg []) ff (olc k_lz ol0) Tryz.func203<|bM fun a ha hp U g=>by
 simp only[q_Rg,q_Kn,gS1,Nat.reduceAdd] at g
 simp only[abP,ajs,spQ,c_lz,rdZ,rdB,rdL,c_vcom,q_Rg,q_Kn,simQ,ab,S1,Nat.reduceSub,Nat.reduceAdd,-eq_self,be,g]
 refine bQ ?_
 constructor<;>intro c0
 constructor<;>intro c1
 ·(have hx:=vF a.ul a.uh;have hb:aE (bits .xor .u64 a.ul a.uh).toNat<=64:=eh (by omega);have h1:IntKind.i64.wrap (64-(64-(aE (bits .xor .u64 a.ul a.uh).toNat:Int)))<0:=thm3 c1;rw[aL] at h1;omega)
 ·exact aJ (anh (Rg.wf_of ha))
 ·exact aJ (ani (Rg.wf_of ha) c0)
def c_vnar:Cd:=⟨151,[.agg kSc],[.agg kSc,.one .bool],rd_Sc fun a _=>d_Sc (vnar a) [.z (b2i (vnok a))],T0⟩
def abL:Tr:=
(.call 0 [.bool] (.vs 0 6 .nil) 6
(.br (.bw 6)
(.call 2 (kRg) .nil 7
(.call 3 (kRg++[.bool]) (.vs 0 5 (.cons (.bin .or .u64 (.var 4) (.var 5)) (.vs 9 2 .nil))) 11
(.br (.bw 15)
(.call 5 (kKn) (.vs 11 4 .nil) 16
(.call 4 (kKn++[.bool]) (.vs 4 2 (.vs 16 2 .nil)) 18
(.br (.bw 20)
(.call 3 (kRg++[.bool]) (.vs 11 4 (.cons (.var 18) (.cons (.bin .or .u64 (.var 18) (.var 19)) (.vs 9 2 .nil)))) 21
(.br (.bw 25)
(.call 5 (kKn) (.vs 21 4 .nil) 26
(.call 4 (kKn++[.bool]) (.vs 18 2 (.vs 26 2 .nil)) 28
(.br (.bw 30)
(.leaf (.vs 21 4 (.vs 28 2 (.consb (.tt true) .nil))))
(.call 1 (kSc) .nil 31
(.leaf (.vs 31 6 (.consb (.tt false) .nil)))))))
(.call 1 (kSc) .nil 26
(.leaf (.vs 26 6 (.consb (.tt false) .nil))))))
(.call 1 (kSc) .nil 21
(.leaf (.vs 21 6 (.consb (.tt false) .nil)))))))
(.call 1 (kSc) .nil 16
(.leaf (.vs 16 6 (.consb (.tt false) .nil)))))))
(.call 1 (kSc) .nil 7
(.leaf (.vs 7 6 (.consb (.tt false) .nil))))))
theorem adN:c_vnar.Ok Tryz.prog:=
 oks abL (v_Sc []) ff (olc tj<|olc xE<|olc nO<|olc aij<|olc adY<|olc anq ol0) Tryz.func151<|cM fun a ha hp U g=>by
 simp only[q_Sc,q_Rg,q_Kn,gS1,Nat.reduceAdd] at g
 simp only[abL,spQ,c_vmay,c_vall,c_all,c_meet,c_kmeet,c_vcom,rdZ,rdB,rdL,c_vnar,q_Sc,q_Rg,q_Kn,simQ,ab,S1,Nat.reduceSub,Nat.reduceAdd,-eq_self,be,g]
 refine bQ ?_
 constructor<;>intro c0
 refine bQ ?_
 refine bQ ?_
 constructor<;>intro c1
 refine bQ ?_
 refine bQ ?_
 constructor<;>intro c2
 refine bQ ?_
 constructor<;>intro c3
 refine bQ ?_
 refine bQ ?_
 constructor<;>intro c4
 ·(have q:=vn_t (a:=a) c0 c1 c2 c3 c4;rw[q.1,q.2];try rfl)
 refine bQ ?_
 ·(have q:=vn_f (a:=a) (.inr (.inr (.inr (.inr (c4)))));rw[q.1,q.2];try rfl)
 refine bQ ?_
 ·(have q:=vn_f (a:=a) (.inr (.inr (.inr (.inl c3))));rw[q.1,q.2];try rfl)
 refine bQ ?_
 ·(have q:=vn_f (a:=a) (.inr (.inr (.inl c2)));rw[q.1,q.2];try rfl)
 refine bQ ?_
 ·(have q:=vn_f (a:=a) (.inr (.inl c1));rw[q.1,q.2];try rfl)
 refine bQ ?_
 ·(have q:=vn_f (a:=a) (.inl c0);rw[q.1,q.2];try rfl)
def c_vnard:Cd:=⟨187,[.agg kSc],[.agg kSc],rd_Sc fun a _=>d_Sc (vnar a) [],T0⟩
def wm:Tr:=
(.call 0 (kSc++[.bool]) (.vs 0 6 .nil) 6
(.leaf (.vs 6 6 .nil)))
theorem qL:c_vnard.Ok Tryz.prog:=
 oks wm (v_Sc []) ff (olc adN ol0) Tryz.func187<|cM fun a ha hp U g=>by
 simp only[q_Sc,gS1,Nat.reduceAdd] at g
 simp only[wm,spQ,c_vnar,rdZ,rdB,rdL,c_vnard,q_Sc,simQ,ab,S1,Nat.reduceSub,Nat.reduceAdd,-eq_self,be,g]
 refine bQ ?_
 ·rfl
def c_vlow:Cd:=⟨190,[.agg kSc],[.agg kSc],rd_Sc fun a _=>d_Sc (vlow a) [],T0⟩
def abN:Tr:=
(.call 0 (kRg) (.vs 0 4 .nil) 6
(.call 1 (kKn) (.vs 4 2 (.cons (.lit 32) .nil)) 10
(.call 2 (kSc) (.vs 6 6 .nil) 12
(.leaf (.vs 12 6 .nil)))))
theorem ano:c_vlow.Ok Tryz.prog:=
 oks abN (v_Sc []) ff (olc anH<|olc ail<|olc qL ol0) Tryz.func190<|cM fun a ha hp U g=>by
 simp only[q_Sc,q_Rg,q_Kn,gS1,Nat.reduceAdd] at g
 simp only[abN,spQ,c_low,c_kcut,c_vnard,rdZ,rdB,rdL,c_vlow,q_Sc,q_Rg,q_Kn,simQ,ab,S1,Nat.reduceSub,Nat.reduceAdd,-eq_self,be,g]
 refine bQ ?_
 refine bQ ?_
 refine bQ ?_
 ·rfl
def c_vhalf:Cd:=⟨191,[.one (.int .i8),.agg kSc,.agg kSc],[.agg kRg],rdZ fun op=>rd_Sc fun a=>rd_Sc fun b _=>d_Rg (dc op a b) [],T0⟩
def ajr:Tr:=(.call 2 [.int .u64,.bool] (.vs 7 6 .nil) 21
(.br (.bw 22)
(.call 3 (kSc) (.cons (.bin .and .u64 (.var 21) (.lit 31)) .nil) 23
(.call 4 (kRg) (.vs 0 5 (.vs 23 4 .nil)) 29
(.br (.lt (.var 30) (.lit 4294967296))
(.leaf (.vs 29 4 .nil))
(.leaf (.vs 17 4 .nil)))))
(.leaf (.vs 17 4 .nil))))
def wo:Tr:=
(.call 0 (kRg) .nil 13
(.call 1 (kRg) (.vs 13 4 .nil) 17
(.br (.eq (.var 0) (.lit 8))
(.leaf (.vs 17 4 .nil))
(.br (.eq (.var 0) (.lit 12))
(.leaf (.vs 17 4 .nil))
(.br (.eq (.var 0) (.lit 6))
 ajr
(.br (.eq (.var 0) (.lit 7))
 ajr
(.call 4 (kRg) (.vs 0 5 (.vs 7 4 .nil)) 21
(.br (.lt (.var 22) (.lit 4294967296))
(.leaf (.vs 21 4 .nil))
(.leaf (.vs 17 4 .nil))))))))))
theorem alC:c_vhalf.Ok Tryz.prog:=
 oks wo (.int .i8::v_Sc (v_Sc [])) ff (olc nO<|olc anH<|olc adL<|olc nI<|olc k_do ol0) Tryz.func191<|fun op hop=>cM fun a ha=>cM fun b hb hp U g=>by
 simp only[q_Sc,q_Rg,gS1,Nat.reduceAdd] at g
 simp only[wo,ajr,spQ,c_all,c_low,c_vsingle,c_vone,c_do,rdZ,rdB,rdL,c_vhalf,q_Sc,q_Rg,simQ,ab,S1,Nat.reduceSub,Nat.reduceAdd,-eq_self,be,g]
 refine bQ ?_
 refine bQ ?_
 constructor<;>intro c0
 ·(obtain rfl:=eqz c0;rw[show dc 8 a b=blow ball from by unfold dc;simp];try rfl)
 constructor<;>intro c1
 ·(obtain rfl:=eqz c1;rw[show dc 12 a b=blow ball from by unfold dc;simp];try rfl)
 constructor<;>intro c2
 refine bQ ?_
 constructor<;>intro c3
 refine bQ ?_
 refine bQ ?_
 constructor<;>intro c4
 ·(obtain rfl:=eqz c2;have h4:=thm3 c4;rw[show dc 6 a b=bdo 6 a.r (vone (opI .and .u64 (cR b) 31)).r from(by unfold dc;rw[if_neg (by decide),if_pos (by decide),if_pos c3];exact if_pos h4)];try rfl)
 ·(obtain rfl:=eqz c2;have h4:=thm2 c4;rw[show dc 6 a b=blow ball from(by unfold dc;rw[if_neg (by decide),if_pos (by decide),if_pos c3];exact if_neg h4)];try rfl)
 ·(obtain rfl:=eqz c2;rw[show dc 6 a b=blow ball from by unfold dc;simp[c3]];try rfl)
 constructor<;>intro c5
 refine bQ ?_
 constructor<;>intro c6
 refine bQ ?_
 refine bQ ?_
 constructor<;>intro c7
 ·(obtain rfl:=eqz c5;have h4:=thm3 c7;rw[show dc 7 a b=bdo 7 a.r (vone (opI .and .u64 (cR b) 31)).r from(by unfold dc;rw[if_neg (by decide),if_pos (by decide),if_pos c6];exact if_pos h4)];try rfl)
 ·(obtain rfl:=eqz c5;have h4:=thm2 c7;rw[show dc 7 a b=blow ball from(by unfold dc;rw[if_neg (by decide),if_pos (by decide),if_pos c6];exact if_neg h4)];try rfl)
 ·(obtain rfl:=eqz c5;rw[show dc 7 a b=blow ball from by unfold dc;simp[c6]];try rfl)
 refine bQ ?_
 constructor<;>intro c8
 ·(have n0:=nez c0;have n1:=nez c1;have n2:=nez c2;have n3:=nez c5;have h4:=thm3 c8;rw[show dc op a b=bdo op a.r b.r from(by unfold dc;rw[if_neg (by omega),if_neg (by omega)];exact if_pos h4)];try rfl)
 ·(have n0:=nez c0;have n1:=nez c1;have n2:=nez c2;have n3:=nez c5;have h4:=thm2 c8;rw[show dc op a b=blow ball from(by unfold dc;rw[if_neg (by omega),if_neg (by omega)];exact if_neg h4)];try rfl)
def c_vbel4:Cd:=⟨145,[.one (.lit .i64 32)],[.agg kSc],fun _=>d_Sc (vbel 4294967295) [],T0⟩
def wq:Tr:=
(.call 0 (kRg) .nil 0
(.call 1 (kSc) (.cons (.var 0) (.cons (.lit 4294967295) (.vs 2 2 (.cons (.lit 0) (.cons (.lit 4294967295) .nil))))) 4
(.leaf (.vs 4 6 .nil))))
theorem alE:c_vbel4.Ok Tryz.prog:=
 oks wq [] ff (olc nO<|olc qL ol0) Tryz.func145<|fun hp U g=>by
 simp only[wq,spQ,c_all,c_vnard,rdZ,rdB,rdL,c_vbel4,q_Sc,q_Rg,simQ,ab,S1,Nat.reduceSub,Nat.reduceAdd,-eq_self,be]
 refine bQ ?_
 refine bQ ?_
 ·rfl
def c_vby4:Cd:=⟨81,[.one (.lit .i64 4)],[.agg kSc],fun _=>d_Sc (vbel 4294967295) [],T0⟩
def abQ:Tr:=
(.call 0 (kSc) .nil 0
(.leaf (.vs 0 6 .nil)))
theorem ans:c_vby4.Ok Tryz.prog:=
 oks abQ [] ff (olc alE ol0) Tryz.func81<|fun hp U g=>by
 simp only[abQ,spQ,c_vbel4,rdZ,rdB,rdL,c_vby4,q_Sc,simQ,ab,S1,Nat.reduceSub,Nat.reduceAdd,-eq_self,be]
 refine bQ ?_
 ·rfl
theorem aP {p q q2:Prop} (k:q2) (h:p->q=q2:=by intro e;(try simp only[e,be,-eq_self]);rfl):p->q:=fun e=>(h e).symm▸k
def aaP:List (Nat×TI):=[(37,dS),
 (42,dR),
 (46,fR),
 (196,⟨false,1,[.nf],[],none,none,false,false,none,8,true,none,false,0⟩),
 (245,⟨true,13,[.nf,.nf,.nf,.nf,.nf,.nf,.nf,.nf,.nf,.nf,.nf,.nf,.nf],[],some (13,196),none,false,false,none,104,false,none,false,0⟩)]
theorem dG:∀t i,(t,i)∈aaP->TIok Tryz.prog t i:=aV fa0 fa0 (by kernel_rfl)
def c_kcarr:Cd:=⟨243,[.one (.int .u64),.one (.int .u64),.agg kKn,.agg kKn],[.agg kKn],rdZ fun v=>rdZ fun x=>rd_Kn fun a=>rd_Kn fun b _=>d_Kn (jb v (bits .or .u64 (bits .or .u64 (bits .xor .u64 v x) a.m) b.m)) [],T0⟩
def wF:Tr:=
(.call 0 (kKn) (.cons (.var 0) (.cons (.bin .or .u64 (.bin .or .u64 (.bin .xor .u64 (.var 0) (.var 1)) (.var 3)) (.var 5)) .nil)) 6
(.leaf (.vs 6 2 .nil)))
theorem alK:c_kcarr.Ok Tryz.prog:=
 oks wF (.int .u64::.int .u64::v_Kn (v_Kn [])) dG (olc nN ol0) Tryz.func243<|fun v hv x hx=>bF fun a ha=>bF fun b hb hp U g=>by
 simp only[q_Kn,gS1,Nat.reduceAdd] at g
 simp only[wF,spQ,c_kmask,rdZ,rdB,rdL,c_kcarr,q_Kn,simQ,ab,S1,Nat.reduceSub,Nat.reduceAdd,-eq_self,be,g]
 refine aP ?_
 ·rfl
def c_kadd:Cd:=⟨227,[.agg kKn,.agg kKn],[.agg kKn],rd_Kn fun a=>rd_Kn fun b _=>d_Kn (kadd a b) [],T0⟩
def acw:Tr:=
(.call 0 (kKn) (.cons (.bin .add .u64 (.var 0) (.var 2)) (.cons (.bin .add .u64 (.bin .add .u64 (.var 1) (.var 3)) (.bin .add .u64 (.var 0) (.var 2))) (.vs 0 4 .nil))) 4
(.leaf (.vs 4 2 .nil)))
theorem anM:c_kadd.Ok Tryz.prog:=
 oks acw (v_Kn (v_Kn [])) dG (olc alK ol0) Tryz.func227<|bF fun a ha=>bF fun b hb hp U g=>by
 simp only[q_Kn,gS1,Nat.reduceAdd] at g
 simp only[acw,spQ,c_kcarr,rdZ,rdB,rdL,c_kadd,q_Kn,simQ,ab,S1,Nat.reduceSub,Nat.reduceAdd,-eq_self,be,g]
 refine aP ?_
 ·(unfold kadd;rfl)
def c_ksub:Cd:=⟨228,[.agg kKn,.agg kKn],[.agg kKn],rd_Kn fun a=>rd_Kn fun b _=>d_Kn (ksub a b) [],T0⟩
def acn:Tr:=
(.call 0 (kKn) (.cons (.bin .sub .u64 (.var 0) (.var 2)) (.cons (.bin .or .u64 (.bin .or .u64 (.bin .xor .u64 (.bin .add .u64 (.bin .sub .u64 (.var 0) (.var 2)) (.var 1)) (.bin .sub .u64 (.bin .sub .u64 (.var 0) (.var 2)) (.var 3))) (.var 1)) (.var 3)) .nil)) 4
(.leaf (.vs 4 2 .nil)))
theorem aik:c_ksub.Ok Tryz.prog:=
 oks acn (v_Kn (v_Kn [])) dG (olc nN ol0) Tryz.func228<|bF fun a ha=>bF fun b hb hp U g=>by
 simp only[q_Kn,gS1,Nat.reduceAdd] at g
 simp only[acn,spQ,c_kmask,rdZ,rdB,rdL,c_ksub,q_Kn,simQ,ab,S1,Nat.reduceSub,Nat.reduceAdd,-eq_self,be,g]
 refine aP ?_
 ·(unfold ksub;rfl)
def c_kneg:Cd:=⟨231,[.agg kKn,.agg kKn],[.agg kKn],rd_Kn fun a=>rd_Kn fun b _=>d_Kn (ksub (kone 0) a) [],T0⟩
def acq:Tr:=
(.call 0 (kKn) (.cons (.lit 0) .nil) 4
(.call 1 (kKn) (.vs 4 2 (.vs 0 2 .nil)) 6
(.leaf (.vs 6 2 .nil))))
theorem anK:c_kneg.Ok Tryz.prog:=
 oks acq (v_Kn (v_Kn [])) dG (olc adX<|olc aik ol0) Tryz.func231<|bF fun a ha=>bF fun b hb hp U g=>by
 simp only[q_Kn,gS1,Nat.reduceAdd] at g
 simp only[acq,spQ,c_kone,c_ksub,rdZ,rdB,rdL,c_kneg,q_Kn,simQ,ab,S1,Nat.reduceSub,Nat.reduceAdd,-eq_self,be,g]
 refine aP ?_
 refine aP ?_
 ·rfl
def c_kand:Cd:=⟨230,[.agg kKn,.agg kKn],[.agg kKn],rd_Kn fun a=>rd_Kn fun b _=>d_Kn (kand a b) [],T0⟩
def acu:Tr:=
(.leaf (.cons (.bin .and .u64 (.var 0) (.var 2)) (.cons (.bin .andNot .u64 (.bin .and .u64 (.bin .or .u64 (.var 0) (.var 1)) (.bin .or .u64 (.var 2) (.var 3))) (.bin .and .u64 (.var 0) (.var 2))) .nil)))
def iR:=And.intro Kn.eta (And.intro Sc.eta_r (And.intro Sc.eta_k (Sc.eta_2)))
theorem anL:c_kand.Ok Tryz.prog:=
 oks acu (v_Kn (v_Kn [])) dG ol0 Tryz.func230<|bF fun a ha=>bF fun b hb hp U g=>by
 simp only[q_Kn,gS1,Nat.reduceAdd] at g
 simp only[acu,spQ,rdZ,rdB,rdL,c_kand,q_Kn,simQ,ab,S1,Nat.reduceSub,Nat.reduceAdd,-eq_self,iR,g]
 ·rfl
def c_kor:Cd:=⟨229,[.agg kKn,.agg kKn],[.agg kKn],rd_Kn fun a=>rd_Kn fun b _=>d_Kn (kor a b) [],T0⟩
def ahJ:Tr:=
(.leaf (.cons (.bin .or .u64 (.var 0) (.var 2)) (.cons (.bin .andNot .u64 (.bin .or .u64 (.var 1) (.var 3)) (.bin .or .u64 (.var 0) (.var 2))) .nil)))
theorem apm:c_kor.Ok Tryz.prog:=
 oks ahJ (v_Kn (v_Kn [])) dG ol0 Tryz.func229<|bF fun a ha=>bF fun b hb hp U g=>by
 simp only[q_Kn,gS1,Nat.reduceAdd] at g
 simp only[ahJ,spQ,rdZ,rdB,rdL,c_kor,q_Kn,simQ,ab,S1,Nat.reduceSub,Nat.reduceAdd,-eq_self,iR,g]
 ·rfl
def c_kxor:Cd:=⟨232,[.agg kKn,.agg kKn],[.agg kKn],rd_Kn fun a=>rd_Kn fun b _=>d_Kn (kxor a b) [],T0⟩
def acm:Tr:=
(.call 0 (kKn) (.cons (.bin .xor .u64 (.var 0) (.var 2)) (.cons (.bin .or .u64 (.var 1) (.var 3)) .nil)) 4
(.leaf (.vs 4 2 .nil)))
theorem anI:c_kxor.Ok Tryz.prog:=
 oks acm (v_Kn (v_Kn [])) dG (olc nN ol0) Tryz.func232<|bF fun a ha=>bF fun b hb hp U g=>by
 simp only[q_Kn,gS1,Nat.reduceAdd] at g
 simp only[acm,spQ,c_kmask,rdZ,rdB,rdL,c_kxor,q_Kn,simQ,ab,S1,Nat.reduceSub,Nat.reduceAdd,-eq_self,be,g]
 refine aP ?_
 ·rfl
def c_ksec:Cd:=⟨233,[.agg kKn,.agg kKn],[.agg kKn],rd_Kn fun a=>rd_Kn fun b _=>d_Kn b [],T0⟩
def aco:Tr:=
(.leaf (.vs 2 2 .nil))
theorem anJ:c_ksec.Ok Tryz.prog:=
 oks aco (v_Kn (v_Kn [])) dG ol0 Tryz.func233<|bF fun a ha=>bF fun b hb hp U g=>by
 simp only[q_Kn,gS1,Nat.reduceAdd] at g
 simp only[aco,spQ,rdZ,rdB,rdL,c_ksec,q_Kn,simQ,ab,S1,Nat.reduceSub,Nat.reduceAdd,-eq_self,iR,g]
 ·rfl
def c_kdo:Cd:=⟨189,[.one (.int .i8),.one (.int .i8),.agg kKn,.agg kKn],[.agg kKn],rdZ fun op=>rdZ fun l=>rd_Kn fun a=>rd_Kn fun b _=>d_Kn (kdo op l a b) [],T0⟩
def rq:Tr:=(.call 2 (kKn) (.vs 13 2 (.cons (.var 1) .nil)) 15
(.leaf (.vs 15 2 .nil)))
def zL:Tr:=(.call 2 (kKn) (.vs 11 2 (.cons (.var 1) .nil)) 13
(.leaf (.vs 13 2 .nil)))
def ajq:E:=(.cons (.bin .and .u64 (.var 9) (.bin .sub .u64 (.conv .u64 (.var 1)) (.lit 1))) .nil)
def ae8:Tr:=(.br (.eq (.bin .and .u64 (.var 10) (.bin .sub .u64 (.conv .u64 (.var 1)) (.lit 1))) (.lit 0))
(.call 3 [.int .u64,.int .i64] (.vs 0 2 (.cons (.var 7) ajq)) 13
(.call 3 [.int .u64,.int .i64] (.vs 0 2 (.cons (.var 8) ajq)) 15
(.call 5 (kKn) (.cons (.var 13) (.cons (.var 15) .nil)) 17
(.call 2 (kKn) (.vs 17 2 (.cons (.var 1) .nil)) 19
(.leaf (.vs 19 2 .nil))))))
 zL)
def acs:Tr:=
(.cut 0 6 [.bool]
(.call 0 [.bool] (.vs 2 2 .nil) 6
(.br (.bw 6)
(.call 0 [.bool] (.vs 4 2 .nil) 7
(.br (.bw 7)
(.br (.lt (.var 0) (.lit 0))
(.next 0 (.consb (.tt true) .nil))
(.br (.lt (.lit 12) (.var 0))
(.next 0 (.consb (.tt true) .nil))
(.br (.eq (.var 1) (.lit 32))
(.next 0 (.consb (.tt false) .nil))
(.next 0 (.consb (.not (.eq (.var 1) (.lit 64))) .nil)))))
(.next 0 (.consb (.tt true) .nil))))
(.next 0 (.consb (.tt true) .nil))))
(.br (.bw 6)
(.call 1 (kKn) .nil 7
(.leaf (.vs 7 2 .nil)))
(.call 2 (kKn) (.vs 2 2 (.cons (.var 1) .nil)) 7
(.call 2 (kKn) (.vs 4 2 (.cons (.var 1) .nil)) 9
(.br (.eq (.bin .or .u64 (.var 8) (.var 10)) (.lit 0))
(.call 3 [.int .u64,.int .i64] (.vs 0 2 (.cons (.var 7) (.cons (.var 9) .nil))) 11
(.call 4 (kKn) (.cons (.var 11) .nil) 13
(.leaf (.vs 13 2 .nil))))
(.call 1 (kKn) .nil 11
(.br (.eq (.var 0) (.lit 6))
 ae8
(.br (.eq (.var 0) (.lit 7))
 ae8
(.br (.eq (.var 0) (.lit 12))
 ae8
(.br (.eq (.var 0) (.lit 0))
(.call 6 (kKn) (.vs 7 4 .nil) 13
 rq)
(.br (.eq (.var 0) (.lit 1))
(.call 7 (kKn) (.vs 7 4 .nil) 13
 rq)
(.br (.eq (.var 0) (.lit 2))
 zL
(.br (.eq (.var 0) (.lit 3))
 zL
(.br (.eq (.var 0) (.lit 4))
(.call 8 (kKn) (.vs 7 4 .nil) 13
 rq)
(.br (.eq (.var 0) (.lit 5))
(.call 9 (kKn) (.vs 7 4 .nil) 13
 rq)
(.br (.eq (.var 0) (.lit 8))
(.call 10 (kKn) (.vs 7 4 .nil) 13
 rq)
(.br (.eq (.var 0) (.lit 9))
 zL
(.br (.eq (.var 0) (.lit 10))
(.call 11 (kKn) (.vs 7 4 .nil) 13
 rq)
(.br (.eq (.var 0) (.lit 11))
(.call 12 (kKn) (.vs 7 4 .nil) 13
 rq)
.panic)))))))))))))))))))
theorem amJ:bp aaP (smN 0 [c_kmay,c_kall,c_kcut,c_bits,c_kone,c_kmask,c_kadd,c_ksub,c_kor,c_kand,c_kneg,c_kxor,c_ksec]) [] [] [(2,[.tmpB 42]++tps [(19,23)])] 200 Tryz.f189 c_kdo.a c_kdo.r (tp c_kdo.r) (.int .i8::.int .i8::v_Kn (v_Kn [])) acs:=trI (by kernel_rfl)
theorem apn:c_kdo.Ok Tryz.prog:=
 okc acs (.int .i8::.int .i8::v_Kn (v_Kn [])) dG (olc xH<|olc xI<|olc ail<|olc anV<|olc adX<|olc nN<|olc anM<|olc aik<|olc apm<|olc anL<|olc anK<|olc anI<|olc anJ ol0) Tryz.func189 fn0 amJ<|fun op hop l hl=>bF fun a ha=>bF fun b hb hp U g=>by
 have keepg:=g
 simp only[q_Kn,gS1,Nat.reduceAdd] at g
 simp only[acs,ae8,ajq,zL,rq,spQ,c_kmay,c_kall,c_kcut,c_bits,c_kone,c_kmask,c_kadd,c_ksub,c_kor,c_kand,c_kneg,c_kxor,c_ksec,rdZ,rdB,rdL,c_kdo,q_Kn,simQ,ab,S1,Nat.reduceSub,Nat.reduceAdd,-eq_self,be,g]
 refine⟨fun ds=>ds=[.z (b2i (!cE op l a b))],?_,?_⟩
 refine aP ?_
 constructor<;>intro c0
 refine aP ?_
 constructor<;>intro c1
 constructor<;>intro c2
 ·show[Dt.z (b2i true)]=[Dt.z (b2i (!cE op l a b))];rw[anf c2];rfl
 constructor<;>intro c3
 ·show[Dt.z (b2i true)]=[Dt.z (b2i (!cE op l a b))];rw[ang c3];rfl
 constructor<;>intro c4
 ·show[Dt.z (b2i false)]=[Dt.z (b2i (!cE op l a b))];rw[(agu c0 c1 c2 c3 (by rw[eqz c4];rfl)).1];rfl
 ·show[Dt.z (b2i (!(l==64)))]=[Dt.z (b2i (!cE op l a b))];cases h:(l==64);rw[kd_w c4 h];rw[(agu c0 c1 c2 c3 (by rw[eqz h];rfl)).1]
 ·show[Dt.z (b2i true)]=[Dt.z (b2i (!cE op l a b))];rw[kd_b c1];rfl
 ·show[Dt.z (b2i true)]=[Dt.z (b2i (!cE op l a b))];rw[kd_a c0];rfl
 intro U1 ha1 _ hi1
 have g6:U1.b 6 = !cE op l a b:=jM (Dt.z.inj (List.cons.inj hi1).1)
 have keep1:=And.intro ((ha1 0 (by decide)).1.symm.trans g.1) (And.intro ((ha1 1 (by decide)).1.symm.trans g.2.1) (And.intro ((ha1 2 (by decide)).1.symm.trans g.2.2.1) (And.intro ((ha1 3 (by decide)).1.symm.trans g.2.2.2.1) (And.intro ((ha1 4 (by decide)).1.symm.trans g.2.2.2.2.1) ((ha1 5 (by decide)).1.symm.trans g.2.2.2.2.2)))))
 simp only[keep1,g6,Kn.eta,-eq_self]
 constructor<;>intro c5
 refine aP ?_
 ·exact aJ (ah5 (by simpa using c5))
 obtain⟨hg,ho,hl⟩:=ane c5
 refine aP ?_
 refine aP ?_
 constructor<;>intro c6
 refine aP ?_
 refine aP ?_
 ·exact aJ (ah4 hg c6)
 refine aP ?_
 constructor<;>intro c7
 constructor<;>intro c8
 refine aP ?_
 refine aP ?_
 refine aP ?_
 refine aP ?_
 ·(obtain rfl:=eqz c7;rcases hl with rfl | rfl<;>exact aJ (iA hg c6 (agr (by decide) c8)))
 refine aP ?_
 ·(obtain rfl:=eqz c7;rcases hl with rfl | rfl<;>exact aJ (iA hg c6 (ags (by decide) c8)))
 constructor<;>intro c9
 constructor<;>intro c10
 refine aP ?_
 refine aP ?_
 refine aP ?_
 refine aP ?_
 ·(obtain rfl:=eqz c9;rcases hl with rfl | rfl<;>exact aJ (iA hg c6 (agr (by decide) c10)))
 refine aP ?_
 ·(obtain rfl:=eqz c9;rcases hl with rfl | rfl<;>exact aJ (iA hg c6 (ags (by decide) c10)))
 constructor<;>intro c11
 constructor<;>intro c12
 refine aP ?_
 refine aP ?_
 refine aP ?_
 refine aP ?_
 ·(obtain rfl:=eqz c11;rcases hl with rfl | rfl<;>exact aJ (iA hg c6 (agr (by decide) c12)))
 refine aP ?_
 ·(obtain rfl:=eqz c11;rcases hl with rfl | rfl<;>exact aJ (iA hg c6 (ags (by decide) c12)))
 constructor<;>intro c13
 refine aP ?_
 refine aP ?_
 ·(obtain rfl:=eqz c13;exact aJ (iA hg c6 rfl))
 constructor<;>intro c14
 refine aP ?_
 refine aP ?_
 ·(obtain rfl:=eqz c14;exact aJ (iA hg c6 rfl))
 constructor<;>intro c15
 refine aP ?_
 ·(obtain rfl:=eqz c15;exact aJ (iA hg c6 rfl))
 constructor<;>intro c16
 refine aP ?_
 ·(obtain rfl:=eqz c16;exact aJ (iA hg c6 rfl))
 constructor<;>intro c17
 refine aP ?_
 refine aP ?_
 ·(obtain rfl:=eqz c17;exact aJ (iA hg c6 rfl))
 constructor<;>intro c18
 refine aP ?_
 refine aP ?_
 ·(obtain rfl:=eqz c18;exact aJ (iA hg c6 rfl))
 constructor<;>intro c19
 refine aP ?_
 refine aP ?_
 ·(obtain rfl:=eqz c19;exact aJ (iA hg c6 rfl))
 constructor<;>intro c20
 refine aP ?_
 ·(obtain rfl:=eqz c20;exact aJ (iA hg c6 rfl))
 constructor<;>intro c21
 refine aP ?_
 refine aP ?_
 ·(obtain rfl:=eqz c21;exact aJ (iA hg c6 rfl))
 constructor<;>intro c22
 refine aP ?_
 refine aP ?_
 ·(obtain rfl:=eqz c22;exact aJ (iA hg c6 rfl))
 ·(have h10:=nez c7;have h11:=nez c9;have h12:=nez c11;have h13:=nez c13;have h14:=nez c14;have h15:=nez c15;have h16:=nez c16;have h17:=nez c17;have h18:=nez c18;have h19:=nez c19;have h20:=nez c20;have h21:=nez c21;have h22:=nez c22;omega)
theorem cD {p q q2:Prop} (k:q2) (h:p->q=q2:=by intro e;(try simp only[e,be,-eq_self]);rfl):p->q:=fun e=>(h e).symm▸k
def aka:List (Nat×TI):=[(2,tiq2),
 (27,yz),
 (37,dS),
 (42,dR),
 (44,ew),
 (46,fR),
 (48,aaU)]
theorem rG:∀t i,(t,i)∈aka->TIok Tryz.prog t i:=aV fa0 fa0 (by kernel_rfl)
def c_bits0:Cd:=⟨25,[.one (.int .i8),.one (.int .i8),.one (.lit .u64 0),.one (.lit .u64 0)],[.one (.int .u64),.one (.int .i64)],rdZ fun op=>rdZ fun l _=>[.z (if okop op l=true then zdo op l 0 0 else 0),.z (if okop op l=true then 0 else 2)],T0⟩
theorem afO (op:Int) (hop:inK .i8 op=true) (l:Int) (hl:inK .i8 l=true):(∀w,Calls Tryz.prog 25 #[.int .i8 op,.int .i8 l,.int .u64 0,.int .u64 0] w fun e w'=>e=.returned (.tuple #[.int .u64 (if okop op l=true then zdo op l 0 0 else 0),.int .i64 (if okop op l=true then 0 else 2)])/\Ext w w')/\eu (.tuple #[.int .u64 (if okop op l=true then zdo op l 0 0 else 0),.int .i64 (if okop op l=true then 0 else 2)])=true:=by
 exact abu op hop l hl 0 (by decide) 0 (by decide)
theorem alS:c_bits0.Ok Tryz.prog:=fun hF hP=>by
 refine SmOk.pure (s:=c_bits0.m _) hF rfl rfl fun xs vals w h=> ?_
 obtain⟨_,_,_,rfl,⟨x0,rfl,rfl,gx0⟩,h⟩:=h
 obtain⟨_,_,_,rfl,⟨x1,rfl,rfl,gx1⟩,h⟩:=h
 obtain⟨_,_,_,rfl,⟨rfl,rfl⟩,h⟩:=h
 obtain⟨_,_,_,rfl,⟨rfl,rfl⟩,h⟩:=h
 obtain⟨rfl,rfl⟩:=h
 have q:=afO x0 gx0 x1 gx1
 refine⟨_,.inr ⟨cW Tryz.func25 (by kernel_rfl) (by kernel_rfl) _ w,q.1 w⟩,?_,fun U v0 nid j he=> ?_⟩
 ·have q2:=q.2
  simp[eu,dW,dY] at q2
  simp[c_bits0,Cd.m,tp,rdZ,rdB,rdL,List.flatMap_cons,List.flatMap_nil,Sh.cks,List.append_nil,List.cons_append,List.nil_append,b2i_one,fu,q2]
 ·simp only[c_bits0,Cd.m,tp,rdZ,rdB,rdL,List.flatMap_cons,List.flatMap_nil,Sh.cks,List.append_nil,List.cons_append,List.nil_append,b2i_one,eqs,dI,dB,ce,jw,bG,Nat.add_zero,Nat.reduceAdd,and_true] at he
  simp[c_bits0,Cd.m,tp,rdZ,rdB,rdL,List.flatMap_cons,List.flatMap_nil,Sh.cks,List.append_nil,List.cons_append,List.nil_append,b2i_one,eK,bl,aG,V.den,C.den,denL,den0,bK,E.I,E.B,he]
def c_vdo:Cd:=⟨143,[.one (.int .i8),.one (.int .i8),.agg kSc,.agg kSc],[.agg kSc],rdZ fun op=>rdZ fun l=>rd_Sc fun a=>rd_Sc fun b _=>d_Sc (vdo op l a b) [],T0⟩
def ahA:Tr:=
(.call 0 [.int .u64,.int .i64] (.vs 0 2 .nil) 14
(.br (.eq (.var 15) (.lit 0))
(.call 1 [.bool] (.vs 2 6 .nil) 16
(.br (.bw 16)
(.call 1 [.bool] (.vs 8 6 .nil) 17
(.br (.bw 17)
(.br (.eq (.var 1) (.lit 64))
(.call 3 (kRg) (.cons (.var 0) (.vs 2 4 (.vs 8 4 .nil))) 18
(.call 4 (kKn) (.vs 0 2 (.vs 6 2 (.vs 12 2 .nil))) 22
(.call 5 (kSc) (.vs 18 6 .nil) 24
(.leaf (.vs 24 6 .nil)))))
(.call 6 (kSc) (.vs 2 6 .nil) 18
(.call 6 (kSc) (.vs 8 6 .nil) 24
(.call 7 (kRg) (.cons (.var 0) (.vs 18 12 .nil)) 30
(.call 4 (kKn) (.vs 0 2 (.vs 22 2 (.vs 28 2 .nil))) 34
(.call 8 (kSc++[.bool]) (.vs 30 6 .nil) 36
(.br (.bw 42)
(.leaf (.vs 36 6 .nil))
(.call 9 (kSc) .nil 43
(.leaf (.vs 43 6 .nil))))))))))
(.call 2 (kSc) .nil 18
(.leaf (.vs 18 6 .nil)))))
(.call 2 (kSc) .nil 17
(.leaf (.vs 17 6 .nil)))))
(.call 2 (kSc) .nil 16
(.leaf (.vs 16 6 .nil)))))
theorem apf:c_vdo.Ok Tryz.prog:=
 oks ahA (.int .i8::.int .i8::v_Sc (v_Sc [])) rG (olc alS<|olc tj<|olc xE<|olc k_do<|olc apn<|olc qL<|olc ano<|olc alC<|olc adN<|olc ans ol0) Tryz.func143<|fun op hop l hl=>cM fun a ha=>cM fun b hb hp U g=>by
 simp only[q_Sc,q_Rg,q_Kn,gS1,Nat.reduceAdd] at g
 simp only[ahA,spQ,c_bits0,c_vmay,c_vall,c_do,c_kdo,c_vnard,c_vlow,c_vhalf,c_vnar,c_vby4,rdZ,rdB,rdL,c_vdo,q_Sc,q_Rg,q_Kn,simQ,ab,S1,Nat.reduceSub,Nat.reduceAdd,-eq_self,be,g]
 refine cD ?_
 constructor<;>intro c0
 refine cD ?_
 constructor<;>intro c1
 refine cD ?_
 constructor<;>intro c2
 constructor<;>intro c3
 refine cD ?_
 refine cD ?_
 refine cD ?_
 ·(obtain rfl:=eqz c3;have hk:=cQ c0;rw[show vdo op 64 a b=vnar (sc (bdo op a.r b.r) (kdo op 64 a.k b.k)) from by unfold vdo;simp[hk,c1,c2]];try rfl)
 refine cD ?_
 refine cD ?_
 refine cD ?_
 refine cD ?_
 refine cD ?_
 constructor<;>intro c4
 ·(have n:=nez c3;have hk:=cQ c0;have c5:vnok (vhf op l a b)=true:=c4;rw[show vdo op l a b=vnar (vhf op l a b) from by unfold vdo;simp[hk,c1,c2,n,c5]];try rfl)
 refine cD ?_
 ·(have n:=nez c3;have hk:=cQ c0;have c5:vnok (vhf op l a b)=false:=c4;rw[show vdo op l a b=vbel 4294967295 from by unfold vdo;simp[hk,c1,c2,n,c5]];try rfl)
 refine cD ?_
 ·(rw[show vdo op l a b=vall from by unfold vdo;simp[c2]];try rfl)
 refine cD ?_
 ·(rw[show vdo op l a b=vall from by unfold vdo;simp[c1]];try rfl)
 refine cD ?_
 ·(have hk:=ah0 c0;rw[show vdo op l a b=vall from by unfold vdo;simp[hk]];try rfl)
def c_vgiv:Cd:=⟨88,[.one (.int .i8),.agg kSc,.agg kSc],[.agg kSc,.one .bool],rdZ fun cc=>rd_Sc fun a=>rd_Sc fun b _=>d_Sc (vgiv cc a b) [.z (b2i (vgok cc a b))],T0⟩
def abO:Tr:=
(.call 0 [.bool] (.vs 1 6 .nil) 13
(.br (.bw 13)
(.call 0 [.bool] (.vs 7 6 .nil) 14
(.br (.bw 14)
(.call 2 (kRg++[.bool]) (.vs 0 5 (.vs 7 4 .nil)) 15
(.br (.bw 19)
(.br (.eq (.var 0) (.lit 0))
(.call 3 (kKn++[.bool]) (.vs 5 2 (.vs 11 2 .nil)) 20
(.br (.bw 22)
(.call 4 (kSc++[.bool]) (.vs 15 4 (.vs 20 2 .nil)) 23
(.leaf (.vs 23 6 (.consb (.bw 29) .nil))))
(.call 1 (kSc) .nil 23
(.leaf (.vs 23 6 (.consb (.tt false) .nil))))))
(.call 4 (kSc++[.bool]) (.vs 15 4 (.vs 5 2 .nil)) 20
(.leaf (.vs 20 6 (.consb (.bw 26) .nil)))))
(.call 1 (kSc) .nil 20
(.leaf (.vs 20 6 (.consb (.tt false) .nil))))))
(.call 1 (kSc) .nil 15
(.leaf (.vs 15 6 (.consb (.tt false) .nil))))))
(.call 1 (kSc) .nil 14
(.leaf (.vs 14 6 (.consb (.tt false) .nil))))))
theorem anp:c_vgiv.Ok Tryz.prog:=
 oks abO (.int .i8::v_Sc (v_Sc [])) rG (olc tj<|olc xE<|olc alR<|olc adY<|olc adN ol0) Tryz.func88<|fun cc hcc=>cM fun a ha=>cM fun b hb hp U g=>by
 simp only[q_Sc,q_Rg,q_Kn,gS1,Nat.reduceAdd] at g
 simp only[abO,spQ,c_vmay,c_vall,c_given,c_kmeet,c_vnar,rdZ,rdB,rdL,c_vgiv,q_Sc,q_Rg,q_Kn,simQ,ab,S1,Nat.reduceSub,Nat.reduceAdd,-eq_self,be,g]
 refine cD ?_
 constructor<;>intro c0
 refine cD ?_
 constructor<;>intro c1
 refine cD ?_
 constructor<;>intro c2
 constructor<;>intro c3
 refine cD ?_
 constructor<;>intro c4
 refine cD ?_
 ·(have q:=vg_0 c0 c1 c2 c3 c4;rw[q.1,q.2];try rfl)
 refine cD ?_
 ·(have q:=vg_f (cc:=cc) (a:=a) (b:=b) (.inr (.inr (.inr ⟨c3,c4⟩)));rw[q.1,q.2];try rfl)
 refine cD ?_
 ·(have q:=vg_n c0 c1 c2 c3;rw[q.1,q.2];try rfl)
 refine cD ?_
 ·(have q:=vg_f (cc:=cc) (a:=a) (b:=b) (.inr (.inr (.inl c2)));rw[q.1,q.2];try rfl)
 refine cD ?_
 ·(have q:=vg_f (cc:=cc) (a:=a) (b:=b) (.inr (.inl c1));rw[q.1,q.2];try rfl)
 refine cD ?_
 ·(have q:=vg_f (cc:=cc) (a:=a) (b:=b) (.inl c0);rw[q.1,q.2];try rfl)
theorem Ty.eta (a:Ty):(⟨a.k,a.ul,a.uh,a.sl,a.sh,a.v,a.m,a.lo,a.hi⟩:Ty)=a:=rfl
def rd_Ty (k:Ty->List Dt->List Dt):List Dt->List Dt
 | .z z0::.z z1::.z z2::.z z3::.z z4::.z z5::.z z6::.z z7::.z z8::r=>k ⟨z0,z1,z2,z3,z4,z5,z6,z7,z8⟩ r
 | _=>[]
def Ty.ok (a:Ty):Prop:=inK .i8 a.k=true/\inK .u64 a.ul=true/\inK .u64 a.uh=true/\inK .i64 a.sl=true/\inK .i64 a.sh=true/\inK .u64 a.v=true/\inK .u64 a.m=true/\inK .i64 a.lo=true/\inK .i64 a.hi=true
def kTy:List CK:=[.int .i8,.int .u64,.int .u64,.int .i64,.int .i64,.int .u64,.int .u64,.int .i64,.int .i64]
def v_Ty (t:List VK):List VK:=.int .i8::.int .u64::.int .u64::.int .i64::.int .i64::.int .u64::.int .u64::.int .i64::.int .i64::t
def d_Ty (a:Ty) (t:List Dt):List Dt:=.z a.k::.z a.ul::.z a.uh::.z a.sl::.z a.sh::.z a.v::.z a.m::.z a.lo::.z a.hi::t
theorem bE {l:List VK} {p:List Dt->Prop} (h:∀a:Ty,Ty.ok a->bC l fun r=>p (d_Ty a r)):bC (v_Ty l) p:=
 fun x0 gx0 x1 gx1 x2 gx2 x3 gx3 x4 gx4 x5 gx5 x6 gx6 x7 gx7 x8 gx8=>h ⟨x0,x1,x2,x3,x4,x5,x6,x7,x8⟩ ⟨gx0,gx1,gx2,gx3,gx4,gx5,gx6,gx7,gx8⟩
theorem ee (k:Ty->List Dt->List Dt) (a:Ty) (t:List Dt):rd_Ty k (d_Ty a t)=k a t:=rfl
def q_Ty:=And.intro @v_Ty.eq_1 (And.intro @d_Ty.eq_1 (And.intro @rd_Ty.eq_1 (@kTy.eq_1)))
theorem Sta.eta (a:Sta):(⟨a.r0,a.r1,a.r2,a.r3,a.r4,a.r5,a.r6,a.r7,a.r8,a.r9,a.r10,a.s0,a.s1,a.s2,a.s3,a.s4,a.s5,a.s6,a.s7⟩:Sta)=a:=rfl
def rd_Sta (k:Sta->List Dt->List Dt):List Dt->List Dt:=rd_Ty fun r0=>rd_Ty fun r1=>rd_Ty fun r2=>rd_Ty fun r3=>rd_Ty fun r4=>rd_Ty fun r5=>rd_Ty fun r6=>rd_Ty fun r7=>rd_Ty fun r8=>rd_Ty fun r9=>rd_Ty fun r10=>rd_Ty fun s0=>rd_Ty fun s1=>rd_Ty fun s2=>rd_Ty fun s3=>rd_Ty fun s4=>rd_Ty fun s5=>rd_Ty fun s6=>rd_Ty fun s7=>fun r=>k ⟨r0,r1,r2,r3,r4,r5,r6,r7,r8,r9,r10,s0,s1,s2,s3,s4,s5,s6,s7⟩ r
def Sta.ok (a:Sta):Prop:=Ty.ok a.r0/\Ty.ok a.r1/\Ty.ok a.r2/\Ty.ok a.r3/\Ty.ok a.r4/\Ty.ok a.r5/\Ty.ok a.r6/\Ty.ok a.r7/\Ty.ok a.r8/\Ty.ok a.r9/\Ty.ok a.r10/\Ty.ok a.s0/\Ty.ok a.s1/\Ty.ok a.s2/\Ty.ok a.s3/\Ty.ok a.s4/\Ty.ok a.s5/\Ty.ok a.s6/\Ty.ok a.s7
def kSta:List CK:=[.int .i8,.int .u64,.int .u64,.int .i64,.int .i64,.int .u64,.int .u64,.int .i64,.int .i64,.int .i8,.int .u64,.int .u64,.int .i64,.int .i64,.int .u64,.int .u64,.int .i64,.int .i64,.int .i8,.int .u64,.int .u64,.int .i64,.int .i64,.int .u64,.int .u64,.int .i64,.int .i64,.int .i8,.int .u64,.int .u64,.int .i64,.int .i64,.int .u64,.int .u64,.int .i64,.int .i64,.int .i8,.int .u64,.int .u64,.int .i64,.int .i64,.int .u64,.int .u64,.int .i64,.int .i64,.int .i8,.int .u64,.int .u64,.int .i64,.int .i64,.int .u64,.int .u64,.int .i64,.int .i64,.int .i8,.int .u64,.int .u64,.int .i64,.int .i64,.int .u64,.int .u64,.int .i64,.int .i64,.int .i8,.int .u64,.int .u64,.int .i64,.int .i64,.int .u64,.int .u64,.int .i64,.int .i64,.int .i8,.int .u64,.int .u64,.int .i64,.int .i64,.int .u64,.int .u64,.int .i64,.int .i64,.int .i8,.int .u64,.int .u64,.int .i64,.int .i64,.int .u64,.int .u64,.int .i64,.int .i64,.int .i8,.int .u64,.int .u64,.int .i64,.int .i64,.int .u64,.int .u64,.int .i64,.int .i64,.int .i8,.int .u64,.int .u64,.int .i64,.int .i64,.int .u64,.int .u64,.int .i64,.int .i64,.int .i8,.int .u64,.int .u64,.int .i64,.int .i64,.int .u64,.int .u64,.int .i64,.int .i64,.int .i8,.int .u64,.int .u64,.int .i64,.int .i64,.int .u64,.int .u64,.int .i64,.int .i64,.int .i8,.int .u64,.int .u64,.int .i64,.int .i64,.int .u64,.int .u64,.int .i64,.int .i64,.int .i8,.int .u64,.int .u64,.int .i64,.int .i64,.int .u64,.int .u64,.int .i64,.int .i64,.int .i8,.int .u64,.int .u64,.int .i64,.int .i64,.int .u64,.int .u64,.int .i64,.int .i64,.int .i8,.int .u64,.int .u64,.int .i64,.int .i64,.int .u64,.int .u64,.int .i64,.int .i64,.int .i8,.int .u64,.int .u64,.int .i64,.int .i64,.int .u64,.int .u64,.int .i64,.int .i64]
def v_Sta (t:List VK):List VK:=v_Ty (v_Ty (v_Ty (v_Ty (v_Ty (v_Ty (v_Ty (v_Ty (v_Ty (v_Ty (v_Ty (v_Ty (v_Ty (v_Ty (v_Ty (v_Ty (v_Ty (v_Ty (v_Ty (t)))))))))))))))))))
def d_Sta (a:Sta) (t:List Dt):List Dt:=d_Ty a.r0 (d_Ty a.r1 (d_Ty a.r2 (d_Ty a.r3 (d_Ty a.r4 (d_Ty a.r5 (d_Ty a.r6 (d_Ty a.r7 (d_Ty a.r8 (d_Ty a.r9 (d_Ty a.r10 (d_Ty a.s0 (d_Ty a.s1 (d_Ty a.s2 (d_Ty a.s3 (d_Ty a.s4 (d_Ty a.s5 (d_Ty a.s6 (d_Ty a.s7 (t)))))))))))))))))))
theorem eF {l:List VK} {p:List Dt->Prop} (h:∀a:Sta,Sta.ok a->bC l fun r=>p (d_Sta a r)):bC (v_Sta l) p:=
 bE fun r0 hr0=>bE fun r1 hr1=>bE fun r2 hr2=>bE fun r3 hr3=>bE fun r4 hr4=>bE fun r5 hr5=>bE fun r6 hr6=>bE fun r7 hr7=>bE fun r8 hr8=>bE fun r9 hr9=>bE fun r10 hr10=>bE fun s0 hs0=>bE fun s1 hs1=>bE fun s2 hs2=>bE fun s3 hs3=>bE fun s4 hs4=>bE fun s5 hs5=>bE fun s6 hs6=>bE fun s7 hs7=>h ⟨r0,r1,r2,r3,r4,r5,r6,r7,r8,r9,r10,s0,s1,s2,s3,s4,s5,s6,s7⟩ ⟨hr0,hr1,hr2,hr3,hr4,hr5,hr6,hr7,hr8,hr9,hr10,hs0,hs1,hs2,hs3,hs4,hs5,hs6,hs7⟩
theorem bN (k:Sta->List Dt->List Dt) (a:Sta) (t:List Dt):rd_Sta k (d_Sta a t)=k a t:=by
 simp only[rd_Sta,d_Sta,ee]
def eU:=And.intro @v_Sta.eq_1 (And.intro @d_Sta.eq_1 (And.intro @rd_Sta.eq_1 (@kSta.eq_1)))
theorem Snap.eta (a:Snap):(⟨a.r0,a.r1,a.r2,a.r3,a.r4,a.r5,a.r6,a.r7,a.r8,a.r9,a.r10,a.set,a.f0,a.f1,a.f2,a.f3,a.f4,a.f5,a.f6,a.f7,a.f8,a.f9,a.f10,a.f11,a.f12,a.f13,a.f14,a.f15,a.f16,a.f17,a.f18,a.f19,a.f20,a.f21,a.f22,a.f23,a.f24,a.f25,a.f26,a.f27,a.f28,a.f29,a.f30,a.f31,a.f32,a.f33,a.f34,a.f35,a.f36,a.f37,a.f38,a.f39,a.f40,a.f41,a.f42,a.f43,a.f44,a.f45,a.f46,a.f47,a.f48,a.f49,a.f50,a.f51,a.f52,a.f53,a.f54,a.f55,a.f56,a.f57,a.f58,a.f59,a.f60,a.f61,a.f62,a.f63⟩:Snap)=a:=rfl
def Snap.ok (a:Snap):Prop:=inK .u64 a.r0=true/\inK .u64 a.r1=true/\inK .u64 a.r2=true/\inK .u64 a.r3=true/\inK .u64 a.r4=true/\inK .u64 a.r5=true/\inK .u64 a.r6=true/\inK .u64 a.r7=true/\inK .u64 a.r8=true/\inK .u64 a.r9=true/\inK .u64 a.r10=true/\inK .i64 a.set=true/\inK .u8 a.f0=true/\inK .u8 a.f1=true/\inK .u8 a.f2=true/\inK .u8 a.f3=true/\inK .u8 a.f4=true/\inK .u8 a.f5=true/\inK .u8 a.f6=true/\inK .u8 a.f7=true/\inK .u8 a.f8=true/\inK .u8 a.f9=true/\inK .u8 a.f10=true/\inK .u8 a.f11=true/\inK .u8 a.f12=true/\inK .u8 a.f13=true/\inK .u8 a.f14=true/\inK .u8 a.f15=true/\inK .u8 a.f16=true/\inK .u8 a.f17=true/\inK .u8 a.f18=true/\inK .u8 a.f19=true/\inK .u8 a.f20=true/\inK .u8 a.f21=true/\inK .u8 a.f22=true/\inK .u8 a.f23=true/\inK .u8 a.f24=true/\inK .u8 a.f25=true/\inK .u8 a.f26=true/\inK .u8 a.f27=true/\inK .u8 a.f28=true/\inK .u8 a.f29=true/\inK .u8 a.f30=true/\inK .u8 a.f31=true/\inK .u8 a.f32=true/\inK .u8 a.f33=true/\inK .u8 a.f34=true/\inK .u8 a.f35=true/\inK .u8 a.f36=true/\inK .u8 a.f37=true/\inK .u8 a.f38=true/\inK .u8 a.f39=true/\inK .u8 a.f40=true/\inK .u8 a.f41=true/\inK .u8 a.f42=true/\inK .u8 a.f43=true/\inK .u8 a.f44=true/\inK .u8 a.f45=true/\inK .u8 a.f46=true/\inK .u8 a.f47=true/\inK .u8 a.f48=true/\inK .u8 a.f49=true/\inK .u8 a.f50=true/\inK .u8 a.f51=true/\inK .u8 a.f52=true/\inK .u8 a.f53=true/\inK .u8 a.f54=true/\inK .u8 a.f55=true/\inK .u8 a.f56=true/\inK .u8 a.f57=true/\inK .u8 a.f58=true/\inK .u8 a.f59=true/\inK .u8 a.f60=true/\inK .u8 a.f61=true/\inK .u8 a.f62=true/\inK .u8 a.f63=true
structure Fr where
 f0:Int
 f1:Int
 f2:Int
 f3:Int
 f4:Int
 f5:Int
 f6:Int
 f7:Int
 f8:Int
 f9:Int
 f10:Int
 f11:Int
 f12:Int
 f13:Int
 f14:Int
 f15:Int
 f16:Int
 f17:Int
 f18:Int
 f19:Int
 f20:Int
 f21:Int
 f22:Int
 f23:Int
 f24:Int
 f25:Int
 f26:Int
 f27:Int
 f28:Int
 f29:Int
 f30:Int
 f31:Int
 f32:Int
 f33:Int
 f34:Int
 f35:Int
 f36:Int
 f37:Int
 f38:Int
 f39:Int
 f40:Int
 f41:Int
 f42:Int
 f43:Int
 f44:Int
 f45:Int
 f46:Int
 f47:Int
 f48:Int
 f49:Int
 f50:Int
 f51:Int
 f52:Int
 f53:Int
 f54:Int
 f55:Int
 f56:Int
 f57:Int
 f58:Int
 f59:Int
 f60:Int
 f61:Int
 f62:Int
 f63:Int
theorem Fr.eta (a:Fr):(⟨a.f0,a.f1,a.f2,a.f3,a.f4,a.f5,a.f6,a.f7,a.f8,a.f9,a.f10,a.f11,a.f12,a.f13,a.f14,a.f15,a.f16,a.f17,a.f18,a.f19,a.f20,a.f21,a.f22,a.f23,a.f24,a.f25,a.f26,a.f27,a.f28,a.f29,a.f30,a.f31,a.f32,a.f33,a.f34,a.f35,a.f36,a.f37,a.f38,a.f39,a.f40,a.f41,a.f42,a.f43,a.f44,a.f45,a.f46,a.f47,a.f48,a.f49,a.f50,a.f51,a.f52,a.f53,a.f54,a.f55,a.f56,a.f57,a.f58,a.f59,a.f60,a.f61,a.f62,a.f63⟩:Fr)=a:=rfl
def Fr.ok (a:Fr):Prop:=inK .u8 a.f0=true/\inK .u8 a.f1=true/\inK .u8 a.f2=true/\inK .u8 a.f3=true/\inK .u8 a.f4=true/\inK .u8 a.f5=true/\inK .u8 a.f6=true/\inK .u8 a.f7=true/\inK .u8 a.f8=true/\inK .u8 a.f9=true/\inK .u8 a.f10=true/\inK .u8 a.f11=true/\inK .u8 a.f12=true/\inK .u8 a.f13=true/\inK .u8 a.f14=true/\inK .u8 a.f15=true/\inK .u8 a.f16=true/\inK .u8 a.f17=true/\inK .u8 a.f18=true/\inK .u8 a.f19=true/\inK .u8 a.f20=true/\inK .u8 a.f21=true/\inK .u8 a.f22=true/\inK .u8 a.f23=true/\inK .u8 a.f24=true/\inK .u8 a.f25=true/\inK .u8 a.f26=true/\inK .u8 a.f27=true/\inK .u8 a.f28=true/\inK .u8 a.f29=true/\inK .u8 a.f30=true/\inK .u8 a.f31=true/\inK .u8 a.f32=true/\inK .u8 a.f33=true/\inK .u8 a.f34=true/\inK .u8 a.f35=true/\inK .u8 a.f36=true/\inK .u8 a.f37=true/\inK .u8 a.f38=true/\inK .u8 a.f39=true/\inK .u8 a.f40=true/\inK .u8 a.f41=true/\inK .u8 a.f42=true/\inK .u8 a.f43=true/\inK .u8 a.f44=true/\inK .u8 a.f45=true/\inK .u8 a.f46=true/\inK .u8 a.f47=true/\inK .u8 a.f48=true/\inK .u8 a.f49=true/\inK .u8 a.f50=true/\inK .u8 a.f51=true/\inK .u8 a.f52=true/\inK .u8 a.f53=true/\inK .u8 a.f54=true/\inK .u8 a.f55=true/\inK .u8 a.f56=true/\inK .u8 a.f57=true/\inK .u8 a.f58=true/\inK .u8 a.f59=true/\inK .u8 a.f60=true/\inK .u8 a.f61=true/\inK .u8 a.f62=true/\inK .u8 a.f63=true
def bj:=And.intro Fr.eta (And.intro Kn.eta (And.intro Pi.eta (And.intro Pu.eta (And.intro Rg.eta (And.intro Sc.eta (And.intro Snap.eta (And.intro Sta.eta (And.intro Ty.eta (And.intro Sc.eta_r (And.intro Sc.eta_k (And.intro Sc.eta_2 (Ty.eta_s))))))))))))
def z_Sc:List C:=[.int .u64 (.lit 0),.int .u64 (.lit 0),.int .i64 (.lit 0),.int .i64 (.lit 0),.int .u64 (.lit 0),.int .u64 (.lit 0)]
theorem fN:Tryz.prog.eqGuardType Tryz.prog.depth 48=false:=by kernel_rfl
theorem zt:Tryz.prog.cellsOf 48=6:=by kernel_rfl
theorem zx:Tryz.prog.cellsOf 44=4:=by kernel_rfl
theorem zv:Tryz.prog.cellsOf 46=2:=by kernel_rfl
theorem zB:Tryz.prog.cellsOf 42=1:=by kernel_rfl
theorem aeB:Tryz.prog.cellsOf 2=1:=by kernel_rfl
theorem apa (vs:List Value) (hv:aC vs z_Sc):Tryz.prog.keyLits 6 48 vs=some (cg vs):=by
 obtain⟨x0,_,rfl,g0,hv⟩:=ae hv
 obtain⟨x1,_,rfl,g1,hv⟩:=ae hv
 obtain⟨x2,_,rfl,g2,hv⟩:=ae hv
 obtain⟨x3,_,rfl,g3,hv⟩:=ae hv
 obtain⟨x4,_,rfl,g4,hv⟩:=ae hv
 obtain⟨x5,_,rfl,g5,hv⟩:=ae hv
 obtain rfl:=bD hv
 simp[Program.keyLits,Tryz.underlying48,Tryz.underlying44,Tryz.underlying46,Tryz.underlying42,Tryz.underlying2,zt,zx,zv,zB,aeB,xN,cg,g0,g1,g2,g3,g4,g5]
 split
 ·simp only[Option.bind_some,Function.comp_apply]
  split
  ·rfl
  ·rename_i h;exact absurd (by decide) h
 ·rename_i h;exact absurd (by decide) h
theorem apW (vs:List Value) (hv:aC vs z_Sc):(Value.agg vs.toArray).formed Tryz.prog 48=true:=by
 obtain⟨x0,_,rfl,g0,hv⟩:=ae hv
 obtain⟨x1,_,rfl,g1,hv⟩:=ae hv
 obtain⟨x2,_,rfl,g2,hv⟩:=ae hv
 obtain⟨x3,_,rfl,g3,hv⟩:=ae hv
 obtain⟨x4,_,rfl,g4,hv⟩:=ae hv
 obtain⟨x5,_,rfl,g5,hv⟩:=ae hv
 obtain rfl:=bD hv
 kernel_rfl
theorem kG (vs us:List Value) (hv:aC vs z_Sc) (hu:aC us z_Sc) (w:World):(Op.equal 48 (.agg vs.toArray) (.agg us.toArray)).run Tryz.prog w=.ok (eqVs vs us) w:=
 gq (by kernel_rfl) apW 6 apa vs us hv hu w
def z_Ty:List C:=[.int .i8 (.lit 0),.int .u64 (.lit 0),.int .u64 (.lit 0),.int .i64 (.lit 0),.int .i64 (.lit 0),.int .u64 (.lit 0),.int .u64 (.lit 0),.int .i64 (.lit 0),.int .i64 (.lit 0)]
theorem fM:Tryz.prog.eqGuardType Tryz.prog.depth 50=false:=by kernel_rfl
theorem zo:Tryz.prog.cellsOf 50=9:=by kernel_rfl
theorem zE:Tryz.prog.cellsOf 37=1:=by kernel_rfl
theorem zq:Tryz.prog.cellsOf 48=6:=by kernel_rfl
theorem zw:Tryz.prog.cellsOf 44=4:=by kernel_rfl
theorem zu:Tryz.prog.cellsOf 46=2:=by kernel_rfl
theorem zA:Tryz.prog.cellsOf 42=1:=by kernel_rfl
theorem aeA:Tryz.prog.cellsOf 2=1:=by kernel_rfl
theorem aez:Tryz.prog.cellsOf 3=1:=by kernel_rfl
theorem alx (vs:List Value) (hv:aC vs z_Ty):Tryz.prog.keyLits 6 50 vs=some (cg vs):=by
 obtain⟨x0,_,rfl,g0,hv⟩:=ae hv
 obtain⟨x1,_,rfl,g1,hv⟩:=ae hv
 obtain⟨x2,_,rfl,g2,hv⟩:=ae hv
 obtain⟨x3,_,rfl,g3,hv⟩:=ae hv
 obtain⟨x4,_,rfl,g4,hv⟩:=ae hv
 obtain⟨x5,_,rfl,g5,hv⟩:=ae hv
 obtain⟨x6,_,rfl,g6,hv⟩:=ae hv
 obtain⟨x7,_,rfl,g7,hv⟩:=ae hv
 obtain⟨x8,_,rfl,g8,hv⟩:=ae hv
 obtain rfl:=bD hv
 simp[Program.keyLits,Tryz.underlying50,Tryz.underlying37,Tryz.underlying48,Tryz.underlying44,Tryz.underlying46,Tryz.underlying42,Tryz.underlying2,Tryz.underlying3,zo,zE,zq,zw,zu,zA,aeA,aez,xN,cg,g0,g1,g2,g3,g4,g5,g6,g7,g8]
 repeat (rw[if_pos];rotate_left;· decide)
 rfl
theorem apV (vs:List Value) (hv:aC vs z_Ty):(Value.agg vs.toArray).formed Tryz.prog 50=true:=by
 obtain⟨x0,_,rfl,g0,hv⟩:=ae hv
 obtain⟨x1,_,rfl,g1,hv⟩:=ae hv
 obtain⟨x2,_,rfl,g2,hv⟩:=ae hv
 obtain⟨x3,_,rfl,g3,hv⟩:=ae hv
 obtain⟨x4,_,rfl,g4,hv⟩:=ae hv
 obtain⟨x5,_,rfl,g5,hv⟩:=ae hv
 obtain⟨x6,_,rfl,g6,hv⟩:=ae hv
 obtain⟨x7,_,rfl,g7,hv⟩:=ae hv
 obtain⟨x8,_,rfl,g8,hv⟩:=ae hv
 obtain rfl:=bD hv
 kernel_rfl
theorem kF (vs us:List Value) (hv:aC vs z_Ty) (hu:aC us z_Ty) (w:World):(Op.equal 50 (.agg vs.toArray) (.agg us.toArray)).run Tryz.prog w=.ok (eqVs vs us) w:=
 gq (by kernel_rfl) apV 6 alx vs us hv hu w
theorem dj {p q q2:Prop} (k:q2) (h:p->q=q2:=by intro e;(try simp only[e,bj,-eq_self]);rfl):p->q:=fun e=>(h e).symm▸k
def akf:List (Nat×TI):=[(2,tiq2),
 (3,tiq3),
 (37,dS),
 (42,dR),
 (44,ew),
 (46,fR),
 (48,cK),
 (50,jT),
 (51,mK),
 (52,mJ),
 (54,uf),
 (123,⟨true,4,(zN 4 1111),[],some (4,42),none,false,false,none,32,false,none,false,0⟩)]
theorem jS:∀t i,(t,i)∈akf->TIok Tryz.prog t i:=aV (fac (z:=z_Sc) ⟨kG,fN⟩<|fac (z:=z_Ty) ⟨kF,fM⟩ fa0) fa0 (by kernel_rfl)
def c_tscal:Cd:=⟨84,[],[.agg kTy],fun _=>d_Ty ea [],T0⟩
def wu:Tr:=
(.call 0 (kSc) .nil 0
(.leaf (.cons (.lit 1) (.vs 0 6 (.cons (.lit 0) (.cons (.lit 0) .nil))))))
theorem vb:c_tscal.Ok Tryz.prog:=
 oks wu [] jS (olc xE ol0) Tryz.func84<|fun hp U g=>by
 simp only[wu,spQ,c_vall,rdZ,rdB,rdL,c_tscal,q_Ty,q_Sc,simQ,ab,S1,Nat.reduceSub,Nat.reduceAdd,-eq_self,bj]
 refine dj ?_
 ·rfl
def c_ttok:Cd:=⟨61,[.agg kTy],[.one .bool],rd_Ty fun t _=>[.z (b2i (tok t))],T0⟩
def ajp:Tr:=(.br (.eq (.var 1) (.lit 0))
(.br (.eq (.var 2) (.lit 0))
(.br (.eq (.var 3) (.lit 0))
(.br (.eq (.var 4) (.lit 0))
(.br (.eq (.var 5) (.lit 0))
(.br (.eq (.var 6) (.lit 0))
(.br (.lt (.var 8) (.var 7))
 zlF
(.br (.lt (.var 7) (.lit (-1048576)))
 zlF
(.leaf (.consb (.not (.lt (.lit 1048576) (.var 8))) .nil))))
 zlF)
 zlF)
 zlF)
 zlF)
 zlF)
 zlF)
def abW:Tr:=
(.br (.eq (.var 0) (.lit 0))
(.leaf (.consb (.and (.eq (.var 0) (.lit 0)) (.and (.eq (.var 1) (.lit 0)) (.and (.eq (.var 2) (.lit 0)) (.and (.eq (.var 3) (.lit 0)) (.and (.eq (.var 4) (.lit 0)) (.and (.eq (.var 5) (.lit 0)) (.and (.eq (.var 6) (.lit 0)) (.and (.eq (.var 7) (.lit 0)) (.and (.eq (.var 8) (.lit 0)) (.tt true)))))))))) .nil))
(.br (.eq (.var 0) (.lit 1))
(.br (.eq (.var 7) (.lit 0))
(.br (.eq (.var 8) (.lit 0))
(.call 0 [.bool] (.vs 1 6 .nil) 9
(.leaf (.consb (.bw 9) .nil)))
 zlF)
 zlF)
(.br (.eq (.var 0) (.lit 2))
 ajp
(.br (.eq (.var 0) (.lit 3))
 ajp
 zlF))))
theorem aib:c_ttok.Ok Tryz.prog:=
 oks abW (v_Ty []) jS (olc tj ol0) Tryz.func61<|bE fun t ht hp U g=>by
 simp only[q_Ty,q_Sc,gS1,Nat.reduceAdd] at g
 simp only[abW,ajp,spQ,c_vmay,rdZ,rdB,rdL,c_ttok,q_Ty,q_Sc,simQ,ab,S1,Nat.reduceSub,Nat.reduceAdd,-eq_self,bj,g]
 constructor<;>intro c0
 ·(unfold tok;simp_all [cv,Bool.and_assoc]<;>first | (intros;omega) | (rw[ao];simp;done))
 constructor<;>intro c1
 constructor<;>intro c2
 constructor<;>intro c3
 refine dj ?_
 ·(unfold tok;simp_all [cv,Bool.and_assoc]<;>first | (intros;omega) | (rw[ao];simp;done))
 ·(unfold tok;simp_all [cv,Bool.and_assoc]<;>first | (intros;omega) | (rw[ao];simp;done))
 ·(unfold tok;simp_all [cv,Bool.and_assoc]<;>first | (intros;omega) | (rw[ao];simp;done))
 constructor<;>intro c4
 constructor<;>intro c5
 constructor<;>intro c6
 constructor<;>intro c7
 constructor<;>intro c8
 constructor<;>intro c9
 constructor<;>intro c10
 constructor<;>intro c11
 ·(unfold tok;simp_all [cv,Bool.and_assoc]<;>first | (intros;omega) | (rw[ao];simp;done))
 constructor<;>intro c12
 ·(unfold tok;simp_all [cv,Bool.and_assoc]<;>first | (intros;omega) | (rw[ao];simp;done))
 ·(unfold tok;simp_all [cv,Bool.and_assoc]<;>first | (intros;omega) | (rw[ao];simp;done))
 ·(unfold tok;simp_all [cv,Bool.and_assoc]<;>first | (intros;omega) | (rw[ao];simp;done))
 ·(unfold tok;simp_all [cv,Bool.and_assoc]<;>first | (intros;omega) | (rw[ao];simp;done))
 ·(unfold tok;simp_all [cv,Bool.and_assoc]<;>first | (intros;omega) | (rw[ao];simp;done))
 ·(unfold tok;simp_all [cv,Bool.and_assoc]<;>first | (intros;omega) | (rw[ao];simp;done))
 ·(unfold tok;simp_all [cv,Bool.and_assoc]<;>first | (intros;omega) | (rw[ao];simp;done))
 ·(unfold tok;simp_all [cv,Bool.and_assoc]<;>first | (intros;omega) | (rw[ao];simp;done))
 constructor<;>intro c13
 constructor<;>intro c14
 constructor<;>intro c15
 constructor<;>intro c16
 constructor<;>intro c17
 constructor<;>intro c18
 constructor<;>intro c19
 constructor<;>intro c20
 ·(unfold tok;simp_all [cv,Bool.and_assoc]<;>first | (intros;omega) | (rw[ao];simp;done))
 constructor<;>intro c21
 ·(unfold tok;simp_all [cv,Bool.and_assoc]<;>first | (intros;omega) | (rw[ao];simp;done))
 ·(unfold tok;simp_all [cv,Bool.and_assoc]<;>first | (intros;omega) | (rw[ao];simp;done))
 ·(unfold tok;simp_all [cv,Bool.and_assoc]<;>first | (intros;omega) | (rw[ao];simp;done))
 ·(unfold tok;simp_all [cv,Bool.and_assoc]<;>first | (intros;omega) | (rw[ao];simp;done))
 ·(unfold tok;simp_all [cv,Bool.and_assoc]<;>first | (intros;omega) | (rw[ao];simp;done))
 ·(unfold tok;simp_all [cv,Bool.and_assoc]<;>first | (intros;omega) | (rw[ao];simp;done))
 ·(unfold tok;simp_all [cv,Bool.and_assoc]<;>first | (intros;omega) | (rw[ao];simp;done))
 ·(unfold tok;simp_all [cv,Bool.and_assoc]<;>first | (intros;omega) | (rw[ao];simp;done))
 ·(unfold tok;simp_all [cv,Bool.and_assoc]<;>first | (intros;omega) | (rw[ao];simp;done))
def c_tmay:Cd:=⟨33,[.agg kSta],[.one .bool],rd_Sta fun s _=>[.z (b2i (smay s))],T0⟩
def abX:Tr:=
(.call 0 [.bool] (.vs 0 9 .nil) 171
(.br (.bw 171)
(.call 0 [.bool] (.vs 9 9 .nil) 172
(.br (.bw 172)
(.call 0 [.bool] (.vs 18 9 .nil) 173
(.br (.bw 173)
(.call 0 [.bool] (.vs 27 9 .nil) 174
(.br (.bw 174)
(.call 0 [.bool] (.vs 36 9 .nil) 175
(.br (.bw 175)
(.call 0 [.bool] (.vs 45 9 .nil) 176
(.br (.bw 176)
(.call 0 [.bool] (.vs 54 9 .nil) 177
(.br (.bw 177)
(.call 0 [.bool] (.vs 63 9 .nil) 178
(.br (.bw 178)
(.call 0 [.bool] (.vs 72 9 .nil) 179
(.br (.bw 179)
(.call 0 [.bool] (.vs 81 9 .nil) 180
(.br (.bw 180)
(.call 0 [.bool] (.vs 90 9 .nil) 181
(.br (.bw 181)
(.br (.eq (.var 99) (.lit 0))
 zlF
(.call 0 [.bool] (.vs 99 9 .nil) 182
(.br (.bw 182)
(.br (.eq (.var 108) (.lit 0))
 zlF
(.call 0 [.bool] (.vs 108 9 .nil) 183
(.br (.bw 183)
(.br (.eq (.var 117) (.lit 0))
 zlF
(.call 0 [.bool] (.vs 117 9 .nil) 184
(.br (.bw 184)
(.br (.eq (.var 126) (.lit 0))
 zlF
(.call 0 [.bool] (.vs 126 9 .nil) 185
(.br (.bw 185)
(.br (.eq (.var 135) (.lit 0))
 zlF
(.call 0 [.bool] (.vs 135 9 .nil) 186
(.br (.bw 186)
(.br (.eq (.var 144) (.lit 0))
 zlF
(.call 0 [.bool] (.vs 144 9 .nil) 187
(.br (.bw 187)
(.br (.eq (.var 153) (.lit 0))
 zlF
(.call 0 [.bool] (.vs 153 9 .nil) 188
(.br (.bw 188)
(.br (.eq (.var 162) (.lit 0))
 zlF
(.call 0 [.bool] (.vs 162 9 .nil) 189
(.br (.bw 189)
 zlT
 zlF)))
 zlF)))
 zlF)))
 zlF)))
 zlF)))
 zlF)))
 zlF)))
 zlF)))
 zlF))
 zlF))
 zlF))
 zlF))
 zlF))
 zlF))
 zlF))
 zlF))
 zlF))
 zlF))
 zlF))
theorem aic:c_tmay.Ok Tryz.prog:=
 oks abX (v_Sta []) jS (olc aib ol0) Tryz.func33<|eF fun s hs hp U g=>by
 simp only[c_tmay,bN,ee,rdZ,rdB,rdL]
 simp only[eU,q_Ty,gS1,Nat.reduceAdd] at g
 simp(maxSteps:=10000000) only[abX,spQ,c_ttok,rdZ,rdB,rdL,c_tmay,eU,q_Ty,simQ,ab,S1,Nat.reduceSub,Nat.reduceAdd,-eq_self,bj,g]
 refine dj ?_
 constructor<;>intro c0
 refine dj ?_
 constructor<;>intro c1
 refine dj ?_
 constructor<;>intro c2
 refine dj ?_
 constructor<;>intro c3
 refine dj ?_
 constructor<;>intro c4
 refine dj ?_
 constructor<;>intro c5
 refine dj ?_
 constructor<;>intro c6
 refine dj ?_
 constructor<;>intro c7
 refine dj ?_
 constructor<;>intro c8
 refine dj ?_
 constructor<;>intro c9
 refine dj ?_
 constructor<;>intro c10
 constructor<;>intro c11
 ·(unfold smay tset;simp_all)
 refine dj ?_
 constructor<;>intro c12
 constructor<;>intro c13
 ·(unfold smay tset;simp_all)
 refine dj ?_
 constructor<;>intro c14
 constructor<;>intro c15
 ·(unfold smay tset;simp_all)
 refine dj ?_
 constructor<;>intro c16
 constructor<;>intro c17
 ·(unfold smay tset;simp_all)
 refine dj ?_
 constructor<;>intro c18
 constructor<;>intro c19
 ·(unfold smay tset;simp_all)
 refine dj ?_
 constructor<;>intro c20
 constructor<;>intro c21
 ·(unfold smay tset;simp_all)
 refine dj ?_
 constructor<;>intro c22
 constructor<;>intro c23
 ·(unfold smay tset;simp_all)
 refine dj ?_
 constructor<;>intro c24
 constructor<;>intro c25
 ·(unfold smay tset;simp_all)
 refine dj ?_
 constructor<;>intro c26
 ·(unfold smay tset;simp_all)
 ·(unfold smay tset;simp_all)
 ·(unfold smay tset;simp_all)
 ·(unfold smay tset;simp_all)
 ·(unfold smay tset;simp_all)
 ·(unfold smay tset;simp_all)
 ·(unfold smay tset;simp_all)
 ·(unfold smay tset;simp_all)
 ·(unfold smay tset;simp_all)
 ·(unfold smay tset;simp_all)
 ·(unfold smay tset;simp_all)
 ·(unfold smay tset;simp_all)
 ·(unfold smay tset;simp_all)
 ·(unfold smay tset;simp_all)
 ·(unfold smay tset;simp_all)
 ·(unfold smay tset;simp_all)
 ·(unfold smay tset;simp_all)
 ·(unfold smay tset;simp_all)
 ·(unfold smay tset;simp_all)
 ·(unfold smay tset;simp_all)
def c_tfirst:Cd:=⟨32,[],[.agg kSta],fun _=>d_Sta ahw [],T0⟩
def so:Tr:=
(.call 0 (kSc) (.cons (.lit 0) .nil) 0
(.leaf (.zs [0,0,0,0,0,0,0,0,0,2,0,0,0,0,0,0,0,0,0,0,0,0,0,0,0,0,0,0,0,0,0,0,0,0,0,0,0,0,0,0,0,0,0,0,0,0,0,0,0,0,0,0,0,0,0,0,0,0,0,0,0,0,0,0,0,0,0,0,0,0,0,0,0,0,0,0,0,0,0,0,0,0,0,0,0,0,0,0,0,0,3,0,0,0,0,0,0,64,64,1] (.vs 0 6 (.zs [0,0,1] (.vs 0 6 (.zs [0,0,1] (.vs 0 6 (.zs [0,0,1] (.vs 0 6 (.zs [0,0,1] (.vs 0 6 (.zs [0,0,1] (.vs 0 6 (.zs [0,0,1] (.vs 0 6 (.zs [0,0,1] (.vs 0 6 (.cons (.lit 0) (.cons (.lit 0) .nil))))))))))))))))))))
theorem qM:c_tfirst.Ok Tryz.prog:=
 oks so [] jS (olc nI ol0) Tryz.func32<|fun hp U g=>by
 simp only[so,spQ,c_vone,rdZ,rdB,rdL,c_tfirst,eU,q_Ty,q_Sc,simQ,ab,S1,Nat.reduceSub,Nat.reduceAdd,-eq_self,bj]
 refine dj ?_
 ·rfl
theorem kt {p q q2:Prop} (k:q2) (h:p->q=q2:=by intro e;(try simp only[e,df,ai,-eq_self]);rfl):p->q:=fun e=>(h e).symm▸k
def aaN:List (Nat×TI):=[(3,tiq3),
 (4,tiq4),
 (22,rI),
 (24,rH),
 (37,dS),
 (39,⟨true,9,(zN 9 220090000),[(0,37),(1,37),(2,37),(3,37),(4,4),(5,37),(6,37),(7,3),(8,3)],none,none,false,false,none,24,false,none,false,0⟩)]
theorem mI:∀t i,(t,i)∈aaN->TIok Tryz.prog t i:=aV fa0 fa0 (by kernel_rfl)
def c_vrd:Cd:=⟨13,[.agg kIns],[.one (.int .i64)],rd_Ins fun x _=>[.z (vrd x)],T0⟩
def ae7:Tr:=(.leaf (.cons (.bin .shl .i64 (.lit 1) (.var 6)) .nil))
def ajn:Tr:=(.leaf (.cons (.bin .or .i64 (.bin .shl .i64 (.lit 1) (.var 5)) (.lit 0)) .nil))
def zK:Tr:=(.leaf (.cons (.bin .or .i64 (.bin .shl .i64 (.lit 1) (.var 5)) (.bin .shl .i64 (.lit 1) (.var 6))) .nil))
def ajo:Tr:=(.br (.eq (.var 0) (.lit 5))
(.call 1 [.int .i64] (.cons (.var 8) .nil) 10
(.br (.lt (.bin .add .i64 (.var 10) (.lit 1)) (.lit 0))
.panic
(.leaf (.cons (.bin .sub .i64 (.bin .shl .i64 (.lit 1) (.bin .add .i64 (.var 10) (.lit 1))) (.lit 2)) .nil))))
(.br (.eq (.var 0) (.lit 6))
(.leaf (.cons (.lit 1) .nil))
(.leaf (.cons (.lit 0) .nil))))
def ahz:Tr:=
(.call 0 [.bool] (.vs 0 4 (.consb (.bw 4) (.vs 5 4 .nil))) 9
(.br (.bw 9)
(.br (.lt (.var 5) (.lit 0))
.panic
(.br (.lt (.var 6) (.lit 0))
.panic
(.br (.bw 4)
(.br (.eq (.var 0) (.lit 0))
(.br (.eq (.var 1) (.lit 11))
 ae7
 zK)
(.br (.eq (.var 0) (.lit 1))
 ae7
(.br (.eq (.var 0) (.lit 2))
 zK
(.br (.eq (.var 0) (.lit 3))
 zK
 ajo))))
(.br (.eq (.var 0) (.lit 0))
(.br (.eq (.var 1) (.lit 11))
(.leaf (.cons (.lit 0) .nil))
 ajn)
(.br (.eq (.var 0) (.lit 1))
 ae7
(.br (.eq (.var 0) (.lit 2))
 zK
(.br (.eq (.var 0) (.lit 3))
 ajn
 ajo)))))))
(.leaf (.cons (.lit 0) .nil))))
theorem adM:c_vrd.Ok Tryz.prog:=
 oks ahz (v_Ins []) mI (olc adW<|olc alQ ol0) Tryz.func13<|eG fun x hx hp U g=>by
 simp only[dd,gS1,Nat.reduceAdd] at g
 simp only[ahz,ajo,zK,ajn,ae7,spQ,c_nmay,c_iargs,rdZ,rdB,rdL,c_vrd,dd,simQ,ab,S1,Nat.reduceSub,Nat.reduceAdd,-eq_self,df,ai,g]
 refine kt ?_
 constructor<;>intro c0
 constructor<;>intro c1
 ·(have q:=cF c0;have z:=iQ x.imm;simp[opI,aL] at *;omega)
 constructor<;>intro c2
 ·(have q:=cF c0;have z:=iQ x.imm;simp[opI,aL] at *;omega)
 constructor<;>intro c3
 constructor<;>intro c4
 constructor<;>intro c5
 ·(unfold vrd bit1;simp_all)
 ·(unfold vrd bit1;simp_all)
 constructor<;>intro c6
 ·(unfold vrd bit1;simp_all)
 constructor<;>intro c7
 ·(unfold vrd bit1;simp_all)
 constructor<;>intro c8
 ·(unfold vrd bit1;simp_all)
 constructor<;>intro c9
 refine kt ?_
 constructor<;>intro c10
 ·(have q:=cF c0;have z:=iQ x.imm;simp[opI,aL] at *;omega)
 ·(unfold vrd bit1;simp_all)
 constructor<;>intro c11
 ·(unfold vrd bit1;simp_all)
 ·(unfold vrd bit1;simp_all)
 constructor<;>intro c12
 constructor<;>intro c13
 ·(unfold vrd bit1;simp_all)
 ·(unfold vrd bit1;simp_all)
 constructor<;>intro c14
 ·(unfold vrd bit1;simp_all)
 constructor<;>intro c15
 ·(unfold vrd bit1;simp_all)
 constructor<;>intro c16
 ·(unfold vrd bit1;simp_all)
 constructor<;>intro c17
 refine kt ?_
 constructor<;>intro c18
 ·(have q:=cF c0;have z:=iQ x.imm;simp[opI,aL] at *;omega)
 ·(unfold vrd bit1;simp_all)
 constructor<;>intro c19
 ·(unfold vrd bit1;simp_all)
 ·(unfold vrd bit1;simp_all)
 ·(unfold vrd bit1;simp_all)
def c_vwr:Cd:=⟨21,[.agg kIns],[.one (.int .i64)],rd_Ins fun x _=>[.z (vwr x)],T0⟩
def ajm:Tr:=(.br (.lt (.var 5) (.lit 0))
.panic
(.leaf (.cons (.bin .shl .i64 (.lit 1) (.var 5)) .nil)))
def ahy:Tr:=
(.call 0 [.bool] (.vs 0 4 (.consb (.bw 4) (.vs 5 4 .nil))) 9
(.br (.bw 9)
(.br (.eq (.var 0) (.lit 0))
 ajm
(.br (.eq (.var 0) (.lit 1))
 ajm
(.br (.eq (.var 0) (.lit 5))
(.leaf (.cons (.lit 63) .nil))
(.leaf (.cons (.lit 0) .nil)))))
(.leaf (.cons (.lit 0) .nil))))
theorem ape:c_vwr.Ok Tryz.prog:=
 oks ahy (v_Ins []) mI (olc adW ol0) Tryz.func21<|eG fun x hx hp U g=>by
 simp only[dd,gS1,Nat.reduceAdd] at g
 simp only[ahy,ajm,spQ,c_nmay,rdZ,rdB,rdL,c_vwr,dd,simQ,ab,S1,Nat.reduceSub,Nat.reduceAdd,-eq_self,df,ai,g]
 refine kt ?_
 constructor<;>intro c0
 constructor<;>intro c1
 constructor<;>intro c2
 ·(have q:=cF c0;simp at *;omega)
 ·(unfold vwr bit1;simp_all)
 constructor<;>intro c3
 constructor<;>intro c4
 ·(have q:=cF c0;simp at *;omega)
 ·(unfold vwr bit1;simp_all)
 constructor<;>intro c5
 ·(unfold vwr bit1;simp_all)
 ·(unfold vwr bit1;simp_all)
 ·(unfold vwr bit1;simp_all)
def cV:List Dt->Prop
 | [.z x0,.l x1]=>let f (pr:Prog):Prop:=pr.l.length<=maxLen;f ⟨x0,x1⟩
 | _=>False
def c_icheck:Cd:=⟨11,[.agg kProg],[.one (.int .i64),.one (.int .i64)],rd_Prog fun pr _=>[.z ((cY pr).1),.z ((cY pr).2)],cV⟩
def ajk:Tr:=(.next 0 (.cons (.bin .add .i64 (.var 4) (.lit 1)) .nil))
def ajl:E:=(.get (.lw 1) (.bin .sub .i64 (.len (.lw 1)) (.lit 1)) 0)
def na:Tr:=
(.call 0 [.bool] (.cons (.var 0) (.cons (.lit 0) (.cons (.lit 256) .nil))) 2
(.br (.bw 2)
(.call 0 [.bool] (.cons (.bin .sub .i64 (.len (.lw 1)) (.lit 1)) (.cons (.lit 0) (.cons (.lit 63) .nil))) 3
(.br (.bw 3)
(.loop 0 4 [.int .i64] (.cons (.lit 0) .nil)
(.br (.lt (.var 4) (.len (.lw 1)))
(.br (.lt (.var 4) (.lit 0))
.panic
(.call 1 [.bool] (.ins (.lw 1) (.var 4) .nil) 5
(.br (.bw 5)
(.call 2 [.int .i64,.bool] (.cons (.var 4) (.ins (.lw 1) (.var 4) .nil)) 6
(.br (.bw 7)
(.call 0 [.bool] (.cons (.var 6) (.cons (.lit 0) (.cons (.bin .sub .i64 (.len (.lw 1)) (.lit 1)) .nil))) 8
(.br (.bw 8)
 ajk
(.leaf (.cons (.var 4) (.cons (.lit 32) .nil)))))
 ajk))
(.leaf (.cons (.var 4) (.cons (.lit 31) .nil))))))
(.br (.lt (.bin .sub .i64 (.len (.lw 1)) (.lit 1)) (.lit 0))
.panic
(.br (.lt (.bin .sub .i64 (.len (.lw 1)) (.lit 1)) (.len (.lw 1)))
(.br (.eq ajl (.lit 4))
(.leaf (.cons (.lit 0) (.cons (.lit 0) .nil)))
(.br (.eq ajl (.lit 6))
(.leaf (.cons (.lit 0) (.cons (.lit 0) .nil)))
(.leaf (.cons (.bin .sub .i64 (.len (.lw 1)) (.lit 1)) (.cons (.lit 33) .nil)))))
.panic))))
(.leaf (.cons (.lit 0) (.cons (.lit 3) .nil)))))
(.leaf (.cons (.lit 0) (.cons (.lit 2) .nil)))))
theorem acO:bp aaN (smN 0 [c_iwi,c_nmay,c_itgt]) [] [(7,[.tmpI 26 .i64]++tps [(2,2),(5,4),(27,23)])] [] 200 Tryz.f11 c_icheck.a c_icheck.r (tp c_icheck.r) (v_Prog []) na:=trI (by kernel_rfl)
theorem mu:c_icheck.Ok Tryz.prog:=
 okc (hl:=.inr (.inl ⟨(fun xs (h:cV xs) L hL=>by unfold cV at h;split at h<;>first | exact h.elim | (simp at hL;subst hL;exact h)),rfl⟩)) na (v_Prog []) mI (olc ad2<|olc adW<|olc tk ol0) Tryz.func11 fn0 acO<|eW fun pr hpr hp U g=>by
 simp only[c_icheck,cV,cC,b2i_one,df,ai] at hp
 have keepg:=g
 simp only[cC,dd,gS1,Nat.reduceAdd] at g
 simp only[na,ajl,ajk,spQ,c_iwi,c_nmay,c_itgt,rdZ,rdB,rdL,c_icheck,cC,dd,simQ,ab,S1,Nat.reduceSub,Nat.reduceAdd,-eq_self,df,ai,g]
 refine kt ?_
 constructor<;>intro c0
 refine kt ?_
 constructor<;>intro c1
 refine⟨fun ds=>∃n:Nat,ds=[.z (n:Int)]/\n<=pr.l.length/\(scan pr pr.l.length 0=scan pr (pr.l.length-n) n),fun ds=>(pr.l.length-(dI ds 0).toNat),⟨0,rfl,Nat.zero_le _,rfl⟩,?_⟩
 intro U1 ha1 _ hi1
 obtain⟨n,hds,r1,r2⟩:=hi1
 simp only[thm5,Dt.z.injEq,and_true] at hds
 have g1:=(dF ha1 _ 0 (by decide)).trans keepg
 simp only[cC,dd,gS1,Nat.reduceAdd] at g1
 simp only[g1,hds,ai,-eq_self]
 constructor<;>intro c2
 constructor<;>intro c3
 ·exact absurd (thm3 c3) (by omega)
 refine kt ?_
 constructor<;>intro c4
 refine kt ?_
 constructor<;>intro c5
 refine kt ?_
 constructor<;>intro c6
 ·exact⟨⟨n+1,by rw[addN (Int.ofNat_lt.1 (thm3 c2)) hp],Int.ofNat_lt.1 (thm3 c2),r2.trans (jX (Int.ofNat_lt.1 (thm3 c2)) (mE c4 (.inr c6)))⟩,by rw[addN (Int.ofNat_lt.1 (thm3 c2)) hp];have:=Int.ofNat_lt.1 (thm3 c2);show pr.l.length-(((n+1:Nat):Int)).toNat<pr.l.length-((n:Int)).toNat;omega⟩
 ·rw[gl c0 c1 r2 (Int.ofNat_lt.1 (thm3 c2)) (ri c4 c5 c6)];try rfl
 ·exact⟨⟨n+1,by rw[addN (Int.ofNat_lt.1 (thm3 c2)) hp],Int.ofNat_lt.1 (thm3 c2),r2.trans (jX (Int.ofNat_lt.1 (thm3 c2)) (mE c4 (.inl c5)))⟩,by rw[addN (Int.ofNat_lt.1 (thm3 c2)) hp];have:=Int.ofNat_lt.1 (thm3 c2);show pr.l.length-(((n+1:Nat):Int)).toNat<pr.l.length-((n:Int)).toNat;omega⟩
 ·rw[gl c0 c1 r2 (Int.ofNat_lt.1 (thm3 c2)) (oq c4)];try rfl
 constructor<;>intro c7
 ·have q:=uY c1 hp
  have w:=thm3 c7
  unfold Prog.last at q
  omega
 constructor<;>intro c8
 constructor<;>intro c9
 ·rw[fc c0 c1 r2 (by have:=thm2 c2;omega),if_pos (.inl (eqI c9))];try rfl
 constructor<;>intro c10
 ·rw[fc c0 c1 r2 (by have:=thm2 c2;omega),if_pos (.inr (eqI c10))];try rfl
 ·rw[fc c0 c1 r2 (by have:=thm2 c2;omega),if_neg (fun h=>h.elim (neI c9) (neI c10))];try rfl
 ·have q:=uY c1 hp
  have w:=thm2 c8
  unfold Prog.last at q
  omega
 ·rw[lm c0 c1];try rfl
 ·rw[lr c0];try rfl
def bn:=And.intro Prog.eta (Ins.eta)
theorem aA {p q q2:Prop} (k:q2) (h:p->q=q2:=by intro e;(try simp only[e,bj,bn,ai,ap,-eq_self]);rfl):p->q:=fun e=>(h e).symm▸k
def ua:List (Nat×TI):=[(2,tiq2),
 (3,tiq3),
 (4,tiq4),
 (37,dS),
 (39,lO),
 (42,dR),
 (44,ew),
 (46,fR),
 (48,cK),
 (50,jT),
 (70,aki),
 (105,jd),
 (167,aaX),
 (189,⟨true,10,(zN 10 0),[],some (10,37),none,false,false,none,10,false,none,false,0⟩)]
theorem gZ:∀t i,(t,i)∈ua->TIok Tryz.prog t i:=aV (fac (z:=iX) ⟨gQ,eD⟩<|fac (z:=z_Sc) ⟨kG,fN⟩<|fac (z:=z_Ty) ⟨kF,fM⟩ fa0) fa0 (by kernel_rfl)
def uD:List Dt->Prop
 | [.z x0]=>let f (n:Int):Prop:= -64<=n/\n<=64;f x0
 | _=>False
def c_vbel:Cd:=⟨145,[.one (.int .i64)],[.agg kSc],rdZ fun n _=>d_Sc (vbel (opI .shr .u64 18446744073709551615 (opI .sub .i64 64 n))) [],uD⟩
def ajj:E:=(.bin .shr .u64 (.lit 18446744073709551615) (.bin .sub .i64 (.lit 64) (.var 0)))
def abR:Tr:=
(.br (.lt (.bin .sub .i64 (.lit 64) (.var 0)) (.lit 0))
.panic
(.call 0 (kRg) .nil 1
(.call 1 (kSc) (.cons (.var 1) (.cons ajj (.vs 3 2 (.cons (.lit 0) (.cons ajj .nil))))) 5
(.leaf (.vs 5 6 .nil)))))
theorem ant:c_vbel.Ok Tryz.prog:=
 oks abR [.int .i64] gZ (olc nO<|olc qL ol0) Tryz.func145<|fun n hn hp U g=>by
 simp only[c_vbel,uD,q_Sc,b2i_one,bj,bn,ai,ap] at hp
 simp only[q_Sc,q_Rg,gS1,Nat.reduceAdd] at g
 simp only[abR,ajj,spQ,c_all,c_vnard,rdZ,rdB,rdL,c_vbel,q_Sc,q_Rg,simQ,ab,S1,Nat.reduceSub,Nat.reduceAdd,-eq_self,bj,bn,ai,ap,g]
 constructor<;>intro c0
 ·(have h:IntKind.i64.wrap (64-n)<0:=thm3 c0;have gn:=cX hn;rw[aL] at h;omega)
 refine aA ?_
 refine aA ?_
 ·rfl
def c_vby:Cd:=⟨81,[.one (.int .i64)],[.agg kSc],rdZ fun q _=>d_Sc (vbyt q) [],T0⟩
def ahB:Tr:=
(.call 0 (kSc) (.cons (.bin .mul .i64 (.lit 8) (.mn (.mx (.var 0) (.lit 1)) (.lit 8))) .nil) 1
(.leaf (.vs 1 6 .nil)))
theorem alD:c_vby.Ok Tryz.prog:=
 oks ahB [.int .i64] gZ (olc ant ol0) Tryz.func81<|fun q hq hp U g=>by
 simp only[q_Sc,gS1,Nat.reduceAdd] at g
 simp only[ahB,spQ,c_vbel,rdZ,rdB,rdL,c_vby,uD,q_Sc,simQ,ab,S1,Nat.reduceSub,Nat.reduceAdd,-eq_self,bj,bn,ai,ap,g]
 refine⟨?_,?_⟩
 ·(show -64<=IntKind.i64.wrap (8*min (max q 1) 8)/\IntKind.i64.wrap (8*min (max q 1) 8)<=64;rw[aL];omega)
 refine aA ?_
 ·(refine aU ?_;unfold vbyt;rcases eg q with h | h | h | h | h | h | h | h<;>rw[h]<;>rfl)
def yJ (key:Nat):Sm:=⟨77,key,[.one (.int .u64)],[.one (.int .i64)],false⟩
def abv (x:Int):List Dt:=[.z (tzI x)]
def oy:List Dt->List Dt
 | [.z x0]=>abv x0
 | _=>[]
def akH:Tr:=
(.call 0 [.int .i64] (.cons (.var 0) .nil) 1
(.leaf (.cons (.var 1) .nil)))
def amM:Spec:={F:=fun k=>match k with | 0=>fV | _=>fun _=>[],pre:=fun _ _=>True,hw:=sHw,hx:=sHx,hi:=sHi}
theorem ao2:bp ua [nc 0] [] [] [] 200 Tryz.f77 [.one (.int .u64)] [.one (.int .i64)] false [.int .u64] akH:=trI (by kernel_rfl)
theorem ao0 (x:Int) (hx:inK .u64 x=true):Cn akH amM [.int .u64] [.z x] oy:=by
 intro U g
 simp only[gS1,Nat.reduceAdd] at g
 simp only[akH,amM,rdZ,rdB,rdL,fV,mV,oy,abv,simQ,ab,S1,Nat.reduceSub,Nat.reduceAdd,-eq_self,bj,bn,ai,ap,g]
 refine aA ?_
 ·(simp only[fV];try rfl)
theorem af7 {sp:Spec} {key:Nat} (hF:sp.F key=oy) (hP:sp.pre key=fun _=>True:=by rfl) (hH:∀w,sp.hw w->sHw w:=by exact fun _ h=>h):SmOk Tryz.prog sp (yJ key):=
 nS (s:=yJ key) (hW:=hH) hF hP (by kernel_rfl) gZ (smc (qo rfl) sm0) Tryz.func77 fn0 ao2 (.inl rfl) (fun x gx hp=>ao0 x gx)
def c_bnot:Cd:=⟨85,[.one (.int .i8)],[.one (.int .i8),.one .bool],rdZ fun cc _=>[.z (dr cc),.z (b2i (dh cc))],T0⟩
def acJ:Tr:=
(.br (.lt (.var 0) (.lit 0))
(.leaf (.cons (.lit 0) (.consb (.tt false) .nil)))
(.br (.lt (.var 0) (.lit 10))
(.br (.eq (.var 0) (.lit 0))
(.leaf (.cons (.lit 1) (.consb (.tt true) .nil)))
(.br (.eq (.var 0) (.lit 1))
(.leaf (.cons (.lit 0) (.consb (.tt true) .nil)))
(.br (.eq (.var 0) (.lit 2))
(.leaf (.cons (.lit 5) (.consb (.tt true) .nil)))
(.br (.eq (.var 0) (.lit 3))
(.leaf (.cons (.lit 4) (.consb (.tt true) .nil)))
(.br (.eq (.var 0) (.lit 4))
(.leaf (.cons (.lit 3) (.consb (.tt true) .nil)))
(.br (.eq (.var 0) (.lit 5))
(.leaf (.cons (.lit 2) (.consb (.tt true) .nil)))
(.br (.eq (.var 0) (.lit 6))
(.leaf (.cons (.lit 9) (.consb (.tt true) .nil)))
(.br (.eq (.var 0) (.lit 7))
(.leaf (.cons (.lit 8) (.consb (.tt true) .nil)))
(.br (.eq (.var 0) (.lit 8))
(.leaf (.cons (.lit 7) (.consb (.tt true) .nil)))
(.br (.eq (.var 0) (.lit 9))
(.leaf (.cons (.lit 6) (.consb (.tt true) .nil)))
.panic))))))))))
(.leaf (.cons (.lit 0) (.consb (.tt false) .nil)))))
theorem xJ:c_bnot.Ok Tryz.prog:=
 oks acJ [.int .i8] gZ ol0 Tryz.func85<|fun cc hcc hp U g=>by
 simp only[gS1,Nat.reduceAdd] at g
 simp only[acJ,spQ,rdZ,rdB,rdL,c_bnot,simQ,ab,S1,Nat.reduceSub,Nat.reduceAdd,-eq_self,bj,bn,ai,ap,g]
 constructor<;>intro c0
 ·(unfold dr dh;simp_all<;>omega)
 constructor<;>intro c1
 constructor<;>intro c2
 ·(unfold dr dh;simp_all<;>omega)
 constructor<;>intro c3
 ·(unfold dr dh;simp_all<;>omega)
 constructor<;>intro c4
 ·(unfold dr dh;simp_all<;>omega)
 constructor<;>intro c5
 ·(unfold dr dh;simp_all<;>omega)
 constructor<;>intro c6
 ·(unfold dr dh;simp_all<;>omega)
 constructor<;>intro c7
 ·(unfold dr dh;simp_all<;>omega)
 constructor<;>intro c8
 ·(unfold dr dh;simp_all<;>omega)
 constructor<;>intro c9
 ·(unfold dr dh;simp_all<;>omega)
 constructor<;>intro c10
 ·(unfold dr dh;simp_all<;>omega)
 constructor<;>intro c11
 ·(unfold dr dh;simp_all<;>omega)
 ·(simp_all;omega)
 ·(unfold dr dh;simp_all<;>omega)
def fl:List Dt->Prop
 | [.l x0,.z x1,.z x2,.z x3,.z x4,.z x5,.z x6,.z x7,.z x8,.z x9,.z x10,.z x11,.z x12,.z x13,.z x14,.z x15,.z x16,.z x17,.z x18]=>let f (x:List (List Int)) (a:Ty) (b:Ty):Prop:=x.length=1;f x0 ⟨x1,x2,x3,x4,x5,x6,x7,x8,x9⟩ ⟨x10,x11,x12,x13,x14,x15,x16,x17,x18⟩
 | _=>False
def c_valu:Cd:=⟨79,[.one (.el (kN 9 220090000) 39),.agg kTy,.agg kTy],[.agg kTy],rdL fun x=>rd_Ty fun a=>rd_Ty fun b _=>d_Ty (valu (aa x 0) a b) [],fl⟩
def ae4:E:=(.bin .add .i64 (.var 9) (.bin .sub .i64 (.lit 0) (.var 13)))
def ae5:E:=(.bin .add .i64 (.var 8) (.bin .sub .i64 (.lit 0) (.var 14)))
def ajf:Tr:=(.leaf (.cons (.lit 1) (.vs 25 6 (.cons (.lit 0) (.cons (.lit 0) .nil)))))
def ae6:Tr:=(.leaf (.cons (.lit 1) (.vs 19 6 (.cons (.lit 0) (.cons (.lit 0) .nil)))))
def zJ:Tr:=(.call 2 (kSc) (.cons (.lit 4) .nil) 19
 ae6)
def ajg:Tr:=(.br (.eq (.get (.lw 0) (.lit 0) 2) (.lit 64))
(.call 3 (kTy) .nil 25
(.leaf (.vs 25 9 .nil)))
(.call 2 (kSc) (.cons (.lit 4) .nil) 25
 ajf))
def ajh:Tr:=(.br (.eq (.get (.lw 0) (.lit 0) 2) (.lit 64))
(.br (.eq (.get (.lw 0) (.lit 0) 1) (.lit 0))
(.br (.lt (.var 4) (.lit (-1048576)))
(.call 3 (kTy) .nil 19
(.leaf (.vs 19 9 .nil)))
(.br (.lt (.lit 1048576) (.var 5))
(.call 3 (kTy) .nil 19
(.leaf (.vs 19 9 .nil)))
(.br (.lt (.bin .add .i64 (.var 17) (.var 4)) (.lit (-1048576)))
(.call 3 (kTy) .nil 19
(.leaf (.vs 19 9 .nil)))
(.br (.lt (.lit 1048576) (.bin .add .i64 (.var 17) (.var 4)))
(.call 3 (kTy) .nil 19
(.leaf (.vs 19 9 .nil)))
(.br (.lt (.bin .add .i64 (.var 18) (.var 5)) (.lit (-1048576)))
(.call 3 (kTy) .nil 19
(.leaf (.vs 19 9 .nil)))
(.br (.lt (.lit 1048576) (.bin .add .i64 (.var 18) (.var 5)))
(.call 3 (kTy) .nil 19
(.leaf (.vs 19 9 .nil)))
(.leaf (.vs 10 7 (.cons (.bin .add .i64 (.var 17) (.var 4)) (.cons (.bin .add .i64 (.var 18) (.var 5)) .nil))))))))))
(.call 3 (kTy) .nil 19
(.leaf (.vs 19 9 .nil))))
 zJ)
def aji:Tr:=(.br (.eq (.get (.lw 0) (.lit 0) 2) (.lit 64))
(.br (.eq (.var 10) (.lit 2))
(.call 3 (kTy) .nil 19
(.leaf (.vs 19 9 .nil)))
(.br (.eq (.var 10) (.lit 3))
(.call 3 (kTy) .nil 19
(.leaf (.vs 19 9 .nil)))
(.br (.eq (.get (.lw 0) (.lit 0) 1) (.lit 0))
(.br (.lt (.var 13) (.lit (-1048576)))
(.call 3 (kTy) .nil 19
(.leaf (.vs 19 9 .nil)))
(.br (.lt (.lit 1048576) (.var 14))
(.call 3 (kTy) .nil 19
(.leaf (.vs 19 9 .nil)))
(.br (.lt (.bin .add .i64 (.var 8) (.var 13)) (.lit (-1048576)))
(.call 3 (kTy) .nil 19
(.leaf (.vs 19 9 .nil)))
(.br (.lt (.lit 1048576) (.bin .add .i64 (.var 8) (.var 13)))
(.call 3 (kTy) .nil 19
(.leaf (.vs 19 9 .nil)))
(.br (.lt (.bin .add .i64 (.var 9) (.var 14)) (.lit (-1048576)))
(.call 3 (kTy) .nil 19
(.leaf (.vs 19 9 .nil)))
(.br (.lt (.lit 1048576) (.bin .add .i64 (.var 9) (.var 14)))
(.call 3 (kTy) .nil 19
(.leaf (.vs 19 9 .nil)))
(.leaf (.vs 1 7 (.cons (.bin .add .i64 (.var 8) (.var 13)) (.cons (.bin .add .i64 (.var 9) (.var 14)) .nil))))))))))
(.br (.eq (.get (.lw 0) (.lit 0) 1) (.lit 1))
(.br (.lt (.var 13) (.lit (-1048576)))
(.call 3 (kTy) .nil 19
(.leaf (.vs 19 9 .nil)))
(.br (.lt (.lit 1048576) (.var 14))
(.call 3 (kTy) .nil 19
(.leaf (.vs 19 9 .nil)))
(.br (.lt ae5 (.lit (-1048576)))
(.call 3 (kTy) .nil 19
(.leaf (.vs 19 9 .nil)))
(.br (.lt (.lit 1048576) ae5)
(.call 3 (kTy) .nil 19
(.leaf (.vs 19 9 .nil)))
(.br (.lt ae4 (.lit (-1048576)))
(.call 3 (kTy) .nil 19
(.leaf (.vs 19 9 .nil)))
(.br (.lt (.lit 1048576) ae4)
(.call 3 (kTy) .nil 19
(.leaf (.vs 19 9 .nil)))
(.leaf (.vs 1 7 (.cons ae5 (.cons ae4 .nil))))))))))
(.call 3 (kTy) .nil 19
(.leaf (.vs 19 9 .nil)))))))
 zJ)
def uy:Tr:=
(.br (.lt (.lit 0) (.len (.lw 0)))
(.br (.eq (.get (.lw 0) (.lit 0) 1) (.lit 11))
(.br (.eq (.get (.lw 0) (.lit 0) 2) (.lit 64))
(.leaf (.vs 10 9 .nil))
(.br (.eq (.var 10) (.lit 2))
 zJ
(.br (.eq (.var 10) (.lit 3))
 zJ
(.call 1 (kSc) (.cons (.get (.lw 0) (.lit 0) 1) (.cons (.get (.lw 0) (.lit 0) 2) (.vs 11 6 (.vs 11 6 .nil)))) 19
 ae6))))
(.br (.eq (.get (.lw 0) (.lit 0) 1) (.lit 8))
(.call 0 (kSc) (.cons (.lit 0) .nil) 19
(.br (.eq (.var 1) (.lit 2))
 ajg
(.br (.eq (.var 1) (.lit 3))
 ajg
(.call 1 (kSc) (.cons (.get (.lw 0) (.lit 0) 1) (.cons (.get (.lw 0) (.lit 0) 2) (.vs 2 6 (.vs 19 6 .nil)))) 25
 ajf))))
(.br (.eq (.var 1) (.lit 2))
 aji
(.br (.eq (.var 1) (.lit 3))
 aji
(.br (.eq (.var 10) (.lit 2))
 ajh
(.br (.eq (.var 10) (.lit 3))
 ajh
(.call 1 (kSc) (.cons (.get (.lw 0) (.lit 0) 1) (.cons (.get (.lw 0) (.lit 0) 2) (.vs 2 6 (.vs 11 6 .nil)))) 19
 ae6)))))))
(.stuck 54))
theorem akK:bp ua (smN 0 [c_vone,c_vdo,c_vby,c_tscal]) [(53,Tryz.f53,[],[]),(78,Tryz.f78,[],[]),(144,Tryz.f144,[],[]),(55,Tryz.f55,[],[])] [(999997,[])] [] 200 Tryz.f79 c_valu.a c_valu.r (tp c_valu.r) (.list (kN 9 220090000)::v_Ty (v_Ty [])) uy:=trI (by kernel_rfl)
theorem xD:c_valu.Ok Tryz.prog:=
 okc (hl:=.inr (.inl ⟨(fun xs (h:fl xs) L hL=>by unfold fl at h;split at h<;>first | exact h.elim | (simp at hL;subst hL;rw[h];unfold maxLen;omega)),rfl⟩)) uy (.list (kN 9 220090000)::v_Ty (v_Ty [])) gZ (olc nI<|olc apf<|olc alD<|olc vb ol0) Tryz.func79 (fnc Tryz.func53 (fnc Tryz.func78 (fnc Tryz.func144 (fnc Tryz.func55 fn0)))) akK<|fun x hx=>bE fun a ha=>bE fun b hb hp U g=>by
 simp only[c_valu,fl,q_Ty,b2i_one,bj,bn,ai,ap] at hp
 simp only[q_Ty,q_Sc,gS1,Nat.reduceAdd] at g
 simp only[uy,aji,ajh,ajg,zJ,ae6,ajf,ae5,ae4,spQ,c_vone,c_vdo,c_vby,c_tscal,rdZ,rdB,rdL,c_valu,q_Ty,q_Sc,simQ,ab,S1,Nat.reduceSub,Nat.reduceAdd,-eq_self,bj,bn,ai,ap,g]
 constructor<;>intro c0
 constructor<;>intro c1
 constructor<;>intro c2
 ·rw[va_m c1 c2];try rfl
 constructor<;>intro c3
 refine aA ?_
 ·rw[va_o c1 c2,of_2 (op:=(aa x 0).op) (w:=(aa x 0).w) (.inl (pT c3)) c2];try rfl
 constructor<;>intro c4
 refine aA ?_
 ·rw[va_o c1 c2,of_2 (op:=(aa x 0).op) (w:=(aa x 0).w) (.inl (pU c4)) c2];try rfl
 refine aA ?_
 ·rw[va_o c1 c2,of_1 (op:=(aa x 0).op) (w:=(aa x 0).w) (pF c3 c4) (pF c3 c4)];try rfl
 constructor<;>intro c5
 refine aA ?_
 constructor<;>intro c6
 constructor<;>intro c7
 refine aA ?_
 ·rw[va_n c1 c5,of_8 (op:=(aa x 0).op) (w:=(aa x 0).w) (pT c6) c7 c5];try rfl
 refine aA ?_
 ·rw[va_n c1 c5,of_2 (op:=(aa x 0).op) (w:=(aa x 0).w) (.inl (pT c6)) c7];try rfl
 constructor<;>intro c8
 constructor<;>intro c9
 refine aA ?_
 ·rw[va_n c1 c5,of_8 (op:=(aa x 0).op) (w:=(aa x 0).w) (pU c8) c9 c5];try rfl
 refine aA ?_
 ·rw[va_n c1 c5,of_2 (op:=(aa x 0).op) (w:=(aa x 0).w) (.inl (pU c8)) c9];try rfl
 refine aA ?_
 ·rw[va_n c1 c5,of_1 (op:=(aa x 0).op) (w:=(aa x 0).w) (pF c6 c8) rfl];try rfl
 constructor<;>intro c10
 constructor<;>intro c11
 constructor<;>intro c12
 refine aA ?_
 ·rw[va_e c1 c5,of_5 (op:=(aa x 0).op) (w:=(aa x 0).w) (pT c10) (pT c12) c11];try rfl
 constructor<;>intro c13
 refine aA ?_
 ·rw[va_e c1 c5,of_5 (op:=(aa x 0).op) (w:=(aa x 0).w) (pT c10) (pU c13) c11];try rfl
 constructor<;>intro c14
 constructor<;>intro c15
 refine aA ?_
 ·rw[va_e c1 c5,of_3 (op:=(aa x 0).op) (w:=(aa x 0).w) (pT c10) (pF c12 c13) c11 (.inl (eqI c14)),show((aa x 0).op==1)=false by rw[show(aa x 0).op=0 from eqI c14];rfl,cf (t:=a) (s:=b.s) (b:=false) (.inl (thm3 c15))];try rfl
 constructor<;>intro c16
 refine aA ?_
 ·rw[va_e c1 c5,of_3 (op:=(aa x 0).op) (w:=(aa x 0).w) (pT c10) (pF c12 c13) c11 (.inl (eqI c14)),show((aa x 0).op==1)=false by rw[show(aa x 0).op=0 from eqI c14];rfl,cf (t:=a) (s:=b.s) (b:=false) (.inr (.inl (thm3 c16)))];try rfl
 constructor<;>intro c17
 refine aA ?_
 ·rw[va_e c1 c5,of_3 (op:=(aa x 0).op) (w:=(aa x 0).w) (pT c10) (pF c12 c13) c11 (.inl (eqI c14)),show((aa x 0).op==1)=false by rw[show(aa x 0).op=0 from eqI c14];rfl,cf (t:=a) (s:=b.s) (b:=false) (.inr (.inr (.inl (thm3 c17))))];try rfl
 constructor<;>intro c18
 refine aA ?_
 ·rw[va_e c1 c5,of_3 (op:=(aa x 0).op) (w:=(aa x 0).w) (pT c10) (pF c12 c13) c11 (.inl (eqI c14)),show((aa x 0).op==1)=false by rw[show(aa x 0).op=0 from eqI c14];rfl,cf (t:=a) (s:=b.s) (b:=false) (.inr (.inr (.inr (.inl (thm3 c18)))))];try rfl
 constructor<;>intro c19
 refine aA ?_
 ·rw[va_e c1 c5,of_3 (op:=(aa x 0).op) (w:=(aa x 0).w) (pT c10) (pF c12 c13) c11 (.inl (eqI c14)),show((aa x 0).op==1)=false by rw[show(aa x 0).op=0 from eqI c14];rfl,cf (t:=a) (s:=b.s) (b:=false) (.inr (.inr (.inr (.inr (.inl (thm3 c19))))))];try rfl
 constructor<;>intro c20
 refine aA ?_
 ·rw[va_e c1 c5,of_3 (op:=(aa x 0).op) (w:=(aa x 0).w) (pT c10) (pF c12 c13) c11 (.inl (eqI c14)),show((aa x 0).op==1)=false by rw[show(aa x 0).op=0 from eqI c14];rfl,cf (t:=a) (s:=b.s) (b:=false) (.inr (.inr (.inr (.inr (.inr ((thm3 c20)))))))];try rfl
 ·rw[va_e c1 c5,of_3 (op:=(aa x 0).op) (w:=(aa x 0).w) (pT c10) (pF c12 c13) c11 (.inl (eqI c14)),show((aa x 0).op==1)=false by rw[show(aa x 0).op=0 from eqI c14];rfl,lJ (t:=a) (s:=b.s) (b:=false) (thm2 c15) (thm2 c16) (thm2 c17) (thm2 c18) (thm2 c19) (thm2 c20)];try rfl
 constructor<;>intro c21
 constructor<;>intro c22
 refine aA ?_
 ·rw[va_e c1 c5,of_3 (op:=(aa x 0).op) (w:=(aa x 0).w) (pT c10) (pF c12 c13) c11 (.inr (eqI c21)),show((aa x 0).op==1)=true from c21,cf (t:=a) (s:=b.s) (b:=true) (.inl (thm3 c22))];try rfl
 constructor<;>intro c23
 refine aA ?_
 ·rw[va_e c1 c5,of_3 (op:=(aa x 0).op) (w:=(aa x 0).w) (pT c10) (pF c12 c13) c11 (.inr (eqI c21)),show((aa x 0).op==1)=true from c21,cf (t:=a) (s:=b.s) (b:=true) (.inr (.inl (thm3 c23)))];try rfl
 constructor<;>intro c24
 refine aA ?_
 ·rw[va_e c1 c5,of_3 (op:=(aa x 0).op) (w:=(aa x 0).w) (pT c10) (pF c12 c13) c11 (.inr (eqI c21)),show((aa x 0).op==1)=true from c21,cf (t:=a) (s:=b.s) (b:=true) (.inr (.inr (.inl (thm3 c24))))];try rfl
 constructor<;>intro c25
 refine aA ?_
 ·rw[va_e c1 c5,of_3 (op:=(aa x 0).op) (w:=(aa x 0).w) (pT c10) (pF c12 c13) c11 (.inr (eqI c21)),show((aa x 0).op==1)=true from c21,cf (t:=a) (s:=b.s) (b:=true) (.inr (.inr (.inr (.inl (thm3 c25)))))];try rfl
 constructor<;>intro c26
 refine aA ?_
 ·rw[va_e c1 c5,of_3 (op:=(aa x 0).op) (w:=(aa x 0).w) (pT c10) (pF c12 c13) c11 (.inr (eqI c21)),show((aa x 0).op==1)=true from c21,cf (t:=a) (s:=b.s) (b:=true) (.inr (.inr (.inr (.inr (.inl (thm3 c26))))))];try rfl
 constructor<;>intro c27
 refine aA ?_
 ·rw[va_e c1 c5,of_3 (op:=(aa x 0).op) (w:=(aa x 0).w) (pT c10) (pF c12 c13) c11 (.inr (eqI c21)),show((aa x 0).op==1)=true from c21,cf (t:=a) (s:=b.s) (b:=true) (.inr (.inr (.inr (.inr (.inr ((thm3 c27)))))))];try rfl
 ·rw[va_e c1 c5,of_3 (op:=(aa x 0).op) (w:=(aa x 0).w) (pT c10) (pF c12 c13) c11 (.inr (eqI c21)),show((aa x 0).op==1)=true from c21,lJ (t:=a) (s:=b.s) (b:=true) (thm2 c22) (thm2 c23) (thm2 c24) (thm2 c25) (thm2 c26) (thm2 c27)];try rfl
 refine aA ?_
 ·rw[va_e c1 c5,of_6 (op:=(aa x 0).op) (w:=(aa x 0).w) (pT c10) c11 c14 c21];try rfl
 refine aA ?_
 ·rw[va_e c1 c5,of_2 (op:=(aa x 0).op) (w:=(aa x 0).w) (.inl (pT c10)) c11];try rfl
 constructor<;>intro c28
 constructor<;>intro c29
 constructor<;>intro c30
 refine aA ?_
 ·rw[va_e c1 c5,of_5 (op:=(aa x 0).op) (w:=(aa x 0).w) (pU c28) (pT c30) c29];try rfl
 constructor<;>intro c31
 refine aA ?_
 ·rw[va_e c1 c5,of_5 (op:=(aa x 0).op) (w:=(aa x 0).w) (pU c28) (pU c31) c29];try rfl
 constructor<;>intro c32
 constructor<;>intro c33
 refine aA ?_
 ·rw[va_e c1 c5,of_3 (op:=(aa x 0).op) (w:=(aa x 0).w) (pU c28) (pF c30 c31) c29 (.inl (eqI c32)),show((aa x 0).op==1)=false by rw[show(aa x 0).op=0 from eqI c32];rfl,cf (t:=a) (s:=b.s) (b:=false) (.inl (thm3 c33))];try rfl
 constructor<;>intro c34
 refine aA ?_
 ·rw[va_e c1 c5,of_3 (op:=(aa x 0).op) (w:=(aa x 0).w) (pU c28) (pF c30 c31) c29 (.inl (eqI c32)),show((aa x 0).op==1)=false by rw[show(aa x 0).op=0 from eqI c32];rfl,cf (t:=a) (s:=b.s) (b:=false) (.inr (.inl (thm3 c34)))];try rfl
 constructor<;>intro c35
 refine aA ?_
 ·rw[va_e c1 c5,of_3 (op:=(aa x 0).op) (w:=(aa x 0).w) (pU c28) (pF c30 c31) c29 (.inl (eqI c32)),show((aa x 0).op==1)=false by rw[show(aa x 0).op=0 from eqI c32];rfl,cf (t:=a) (s:=b.s) (b:=false) (.inr (.inr (.inl (thm3 c35))))];try rfl
 constructor<;>intro c36
 refine aA ?_
 ·rw[va_e c1 c5,of_3 (op:=(aa x 0).op) (w:=(aa x 0).w) (pU c28) (pF c30 c31) c29 (.inl (eqI c32)),show((aa x 0).op==1)=false by rw[show(aa x 0).op=0 from eqI c32];rfl,cf (t:=a) (s:=b.s) (b:=false) (.inr (.inr (.inr (.inl (thm3 c36)))))];try rfl
 constructor<;>intro c37
 refine aA ?_
 ·rw[va_e c1 c5,of_3 (op:=(aa x 0).op) (w:=(aa x 0).w) (pU c28) (pF c30 c31) c29 (.inl (eqI c32)),show((aa x 0).op==1)=false by rw[show(aa x 0).op=0 from eqI c32];rfl,cf (t:=a) (s:=b.s) (b:=false) (.inr (.inr (.inr (.inr (.inl (thm3 c37))))))];try rfl
 constructor<;>intro c38
 refine aA ?_
 ·rw[va_e c1 c5,of_3 (op:=(aa x 0).op) (w:=(aa x 0).w) (pU c28) (pF c30 c31) c29 (.inl (eqI c32)),show((aa x 0).op==1)=false by rw[show(aa x 0).op=0 from eqI c32];rfl,cf (t:=a) (s:=b.s) (b:=false) (.inr (.inr (.inr (.inr (.inr ((thm3 c38)))))))];try rfl
 ·rw[va_e c1 c5,of_3 (op:=(aa x 0).op) (w:=(aa x 0).w) (pU c28) (pF c30 c31) c29 (.inl (eqI c32)),show((aa x 0).op==1)=false by rw[show(aa x 0).op=0 from eqI c32];rfl,lJ (t:=a) (s:=b.s) (b:=false) (thm2 c33) (thm2 c34) (thm2 c35) (thm2 c36) (thm2 c37) (thm2 c38)];try rfl
 constructor<;>intro c39
 constructor<;>intro c40
 refine aA ?_
 ·rw[va_e c1 c5,of_3 (op:=(aa x 0).op) (w:=(aa x 0).w) (pU c28) (pF c30 c31) c29 (.inr (eqI c39)),show((aa x 0).op==1)=true from c39,cf (t:=a) (s:=b.s) (b:=true) (.inl (thm3 c40))];try rfl
 constructor<;>intro c41
 refine aA ?_
 ·rw[va_e c1 c5,of_3 (op:=(aa x 0).op) (w:=(aa x 0).w) (pU c28) (pF c30 c31) c29 (.inr (eqI c39)),show((aa x 0).op==1)=true from c39,cf (t:=a) (s:=b.s) (b:=true) (.inr (.inl (thm3 c41)))];try rfl
 constructor<;>intro c42
 refine aA ?_
 ·rw[va_e c1 c5,of_3 (op:=(aa x 0).op) (w:=(aa x 0).w) (pU c28) (pF c30 c31) c29 (.inr (eqI c39)),show((aa x 0).op==1)=true from c39,cf (t:=a) (s:=b.s) (b:=true) (.inr (.inr (.inl (thm3 c42))))];try rfl
 constructor<;>intro c43
 refine aA ?_
 ·rw[va_e c1 c5,of_3 (op:=(aa x 0).op) (w:=(aa x 0).w) (pU c28) (pF c30 c31) c29 (.inr (eqI c39)),show((aa x 0).op==1)=true from c39,cf (t:=a) (s:=b.s) (b:=true) (.inr (.inr (.inr (.inl (thm3 c43)))))];try rfl
 constructor<;>intro c44
 refine aA ?_
 ·rw[va_e c1 c5,of_3 (op:=(aa x 0).op) (w:=(aa x 0).w) (pU c28) (pF c30 c31) c29 (.inr (eqI c39)),show((aa x 0).op==1)=true from c39,cf (t:=a) (s:=b.s) (b:=true) (.inr (.inr (.inr (.inr (.inl (thm3 c44))))))];try rfl
 constructor<;>intro c45
 refine aA ?_
 ·rw[va_e c1 c5,of_3 (op:=(aa x 0).op) (w:=(aa x 0).w) (pU c28) (pF c30 c31) c29 (.inr (eqI c39)),show((aa x 0).op==1)=true from c39,cf (t:=a) (s:=b.s) (b:=true) (.inr (.inr (.inr (.inr (.inr ((thm3 c45)))))))];try rfl
 ·rw[va_e c1 c5,of_3 (op:=(aa x 0).op) (w:=(aa x 0).w) (pU c28) (pF c30 c31) c29 (.inr (eqI c39)),show((aa x 0).op==1)=true from c39,lJ (t:=a) (s:=b.s) (b:=true) (thm2 c40) (thm2 c41) (thm2 c42) (thm2 c43) (thm2 c44) (thm2 c45)];try rfl
 refine aA ?_
 ·rw[va_e c1 c5,of_6 (op:=(aa x 0).op) (w:=(aa x 0).w) (pU c28) c29 c32 c39];try rfl
 refine aA ?_
 ·rw[va_e c1 c5,of_2 (op:=(aa x 0).op) (w:=(aa x 0).w) (.inl (pU c28)) c29];try rfl
 constructor<;>intro c46
 constructor<;>intro c47
 constructor<;>intro c48
 constructor<;>intro c49
 refine aA ?_
 ·rw[va_e c1 c5,of_4 (op:=(aa x 0).op) (w:=(aa x 0).w) (pF c10 c28) (pT c46) c47 c48,cf (t:=b) (s:=a.s) (b:=false) (.inl (thm3 c49))];try rfl
 constructor<;>intro c50
 refine aA ?_
 ·rw[va_e c1 c5,of_4 (op:=(aa x 0).op) (w:=(aa x 0).w) (pF c10 c28) (pT c46) c47 c48,cf (t:=b) (s:=a.s) (b:=false) (.inr (.inl (thm3 c50)))];try rfl
 constructor<;>intro c51
 refine aA ?_
 ·rw[va_e c1 c5,of_4 (op:=(aa x 0).op) (w:=(aa x 0).w) (pF c10 c28) (pT c46) c47 c48,cf (t:=b) (s:=a.s) (b:=false) (.inr (.inr (.inl (thm3 c51))))];try rfl
 constructor<;>intro c52
 refine aA ?_
 ·rw[va_e c1 c5,of_4 (op:=(aa x 0).op) (w:=(aa x 0).w) (pF c10 c28) (pT c46) c47 c48,cf (t:=b) (s:=a.s) (b:=false) (.inr (.inr (.inr (.inl (thm3 c52)))))];try rfl
 constructor<;>intro c53
 refine aA ?_
 ·rw[va_e c1 c5,of_4 (op:=(aa x 0).op) (w:=(aa x 0).w) (pF c10 c28) (pT c46) c47 c48,cf (t:=b) (s:=a.s) (b:=false) (.inr (.inr (.inr (.inr (.inl (thm3 c53))))))];try rfl
 constructor<;>intro c54
 refine aA ?_
 ·rw[va_e c1 c5,of_4 (op:=(aa x 0).op) (w:=(aa x 0).w) (pF c10 c28) (pT c46) c47 c48,cf (t:=b) (s:=a.s) (b:=false) (.inr (.inr (.inr (.inr (.inr ((thm3 c54)))))))];try rfl
 ·rw[va_e c1 c5,of_4 (op:=(aa x 0).op) (w:=(aa x 0).w) (pF c10 c28) (pT c46) c47 c48,lJ (t:=b) (s:=a.s) (b:=false) (thm2 c49) (thm2 c50) (thm2 c51) (thm2 c52) (thm2 c53) (thm2 c54)];try rfl
 refine aA ?_
 ·rw[va_e c1 c5,of_7 (op:=(aa x 0).op) (w:=(aa x 0).w) (pT c46) c47 c48];try rfl
 refine aA ?_
 ·rw[va_e c1 c5,of_2 (op:=(aa x 0).op) (w:=(aa x 0).w) (.inr (pT c46)) c47];try rfl
 constructor<;>intro c55
 constructor<;>intro c56
 constructor<;>intro c57
 constructor<;>intro c58
 refine aA ?_
 ·rw[va_e c1 c5,of_4 (op:=(aa x 0).op) (w:=(aa x 0).w) (pF c10 c28) (pU c55) c56 c57,cf (t:=b) (s:=a.s) (b:=false) (.inl (thm3 c58))];try rfl
 constructor<;>intro c59
 refine aA ?_
 ·rw[va_e c1 c5,of_4 (op:=(aa x 0).op) (w:=(aa x 0).w) (pF c10 c28) (pU c55) c56 c57,cf (t:=b) (s:=a.s) (b:=false) (.inr (.inl (thm3 c59)))];try rfl
 constructor<;>intro c60
 refine aA ?_
 ·rw[va_e c1 c5,of_4 (op:=(aa x 0).op) (w:=(aa x 0).w) (pF c10 c28) (pU c55) c56 c57,cf (t:=b) (s:=a.s) (b:=false) (.inr (.inr (.inl (thm3 c60))))];try rfl
 constructor<;>intro c61
 refine aA ?_
 ·rw[va_e c1 c5,of_4 (op:=(aa x 0).op) (w:=(aa x 0).w) (pF c10 c28) (pU c55) c56 c57,cf (t:=b) (s:=a.s) (b:=false) (.inr (.inr (.inr (.inl (thm3 c61)))))];try rfl
 constructor<;>intro c62
 refine aA ?_
 ·rw[va_e c1 c5,of_4 (op:=(aa x 0).op) (w:=(aa x 0).w) (pF c10 c28) (pU c55) c56 c57,cf (t:=b) (s:=a.s) (b:=false) (.inr (.inr (.inr (.inr (.inl (thm3 c62))))))];try rfl
 constructor<;>intro c63
 refine aA ?_
 ·rw[va_e c1 c5,of_4 (op:=(aa x 0).op) (w:=(aa x 0).w) (pF c10 c28) (pU c55) c56 c57,cf (t:=b) (s:=a.s) (b:=false) (.inr (.inr (.inr (.inr (.inr ((thm3 c63)))))))];try rfl
 ·rw[va_e c1 c5,of_4 (op:=(aa x 0).op) (w:=(aa x 0).w) (pF c10 c28) (pU c55) c56 c57,lJ (t:=b) (s:=a.s) (b:=false) (thm2 c58) (thm2 c59) (thm2 c60) (thm2 c61) (thm2 c62) (thm2 c63)];try rfl
 refine aA ?_
 ·rw[va_e c1 c5,of_7 (op:=(aa x 0).op) (w:=(aa x 0).w) (pU c55) c56 c57];try rfl
 refine aA ?_
 ·rw[va_e c1 c5,of_2 (op:=(aa x 0).op) (w:=(aa x 0).w) (.inr (pU c55)) c56];try rfl
 refine aA ?_
 ·rw[va_e c1 c5,of_1 (op:=(aa x 0).op) (w:=(aa x 0).w) (pF c10 c28) (pF c46 c55)];try rfl
 ·(rw[hp] at c0;simp at c0)
def pA:List C:=repC z_Ty 11++(repC z_Ty 8++[])
theorem qQ:Tryz.prog.eqGuardType Tryz.prog.depth 54=false:=by kernel_rfl
theorem apc:Kl Tryz.prog 7 51 (repC z_Ty 11):=Kl.array (d:=6) (fun vs hv=>alx vs hv) Tryz.underlying51 (by kernel_rfl) (by kernel_rfl)
theorem klA8:Kl Tryz.prog 7 52 (repC z_Ty 8):=Kl.array (d:=6) (fun vs hv=>alx vs hv) Tryz.underlying52 (by kernel_rfl) (by kernel_rfl)
theorem ah3:Kl Tryz.prog 8 54 pA:=Kl.struct (KlSeq.cons apc (by rfl) (by kernel_rfl) (KlSeq.cons klA8 (by rfl) (by kernel_rfl) (KlSeq.nil _ _ _))) Tryz.underlying54 (by kernel_rfl) (by kernel_rfl)
theorem an6 (vs:List Value) (hv:aC vs pA):(Value.agg vs.toArray).formed Tryz.prog 54=true:=tv Tryz.underlying54 (by kernel_rfl) vs hv
theorem xU (vs us:List Value) (hv:aC vs pA) (hu:aC us pA) (w:World):(Op.equal 54 (.agg vs.toArray) (.agg us.toArray)).run Tryz.prog w=.ok (eqVs vs us) w:=
 gq (by kernel_rfl) an6 8 (fun vs hv=>ah3 vs hv) vs us hv hu w
theorem adp {p q q2:Prop} (k:q2) (h:p->q=q2:=by intro e;(try simp only[e,bj,bn,ai,ap,-eq_self]);rfl):p->q:=fun e=>(h e).symm▸k
def tZ:List (Nat×TI):=[(2,tiq2),
 (3,tiq3),
 (4,tiq4),
 (22,rI),
 (24,rH),
 (37,dS),
 (39,lO),
 (42,dR),
 (44,ew),
 (46,fR),
 (48,cK),
 (50,jT),
 (70,aki),
 (105,jd),
 (167,aaX)]
theorem jR:∀t i,(t,i)∈tZ->TIok Tryz.prog t i:=aV (fac (z:=iX) ⟨gQ,eD⟩<|fac (z:=z_Sc) ⟨kG,fN⟩<|fac (z:=z_Ty) ⟨kF,fM⟩ fa0) fa0 (by kernel_rfl)
def uC:List Dt->Prop
 | [.z x0]=>let f (n:Int):Prop:=1<=n/\n<=8;f x0
 | _=>False
def c_vcnt:Cd:=⟨54,[.one (.int .u64)],[.one (.int .i64)],rdZ fun n _=>[.z (pcnt n)],uC⟩
def aja:E:=(.bin .add .u64 (.bin .and .u64 (.bin .shr .u64 (.var 0) (.lit 1)) (.lit 6148914691236517205)) (.bin .and .u64 (.var 0) (.lit 6148914691236517205)))
def ajb:E:=(.bin .add .u64 (.bin .and .u64 (.bin .shr .u64 aja (.lit 2)) (.lit 3689348814741910323)) (.bin .and .u64 aja (.lit 3689348814741910323)))
def ajc:E:=(.bin .and .u64 (.bin .add .u64 (.bin .shr .u64 ajb (.lit 4)) ajb) (.lit 1085102592571150095))
def ajd:E:=(.bin .add .u64 ajc (.bin .shr .u64 ajc (.lit 8)))
def aje:E:=(.bin .add .u64 ajd (.bin .shr .u64 ajd (.lit 16)))
def ux:Tr:=
(.leaf (.cons (.bin .and .i64 (.conv .i64 (.bin .add .u64 aje (.bin .shr .u64 aje (.lit 32)))) (.lit 127)) .nil))
theorem akJ:bp tZ (smN 0 []) [(107,Tryz.f107,[],[])] [] [] 200 Tryz.f54 c_vcnt.a c_vcnt.r (tp c_vcnt.r) [.int .u64] ux:=trI (by kernel_rfl)
theorem anr:c_vcnt.Ok Tryz.prog:=
 okc ux [.int .u64] jR ol0 Tryz.func54 (fnc Tryz.func107 fn0) akJ<|fun n hn hp U g=>by
 simp only[c_vcnt,uC,b2i_one,bj,bn,ai,ap] at hp
 simp only[gS1,Nat.reduceAdd] at g
 simp only[ux,aje,ajd,ajc,ajb,aja,spQ,rdZ,rdB,rdL,c_vcnt,simQ,ab,S1,Nat.reduceSub,Nat.reduceAdd,-eq_self,bj,bn,ai,ap,g]
 ·(rcases cnt8 hp with rfl | rfl | rfl | rfl | rfl | rfl | rfl | rfl<;>rfl)
def oP:List Dt->Prop
 | [.z x0,.l x1,.z x2,.z x3,.z x4,.z x5,.z x6,.z x7,.z x8,.z x9,.z x10,.z x11,.z x12]=>let f (p:Prog) (t:Ty) (off:Int) (size:Int):Prop:=p.l.length<=maxLen;f ⟨x0,x1⟩ ⟨x2,x3,x4,x5,x6,x7,x8,x9,x10⟩ x11 x12
 | _=>False
def c_vwi:Cd:=⟨18,[.agg kProg,.agg kTy,.one (.int .i64),.one (.int .i64)],[.one .bool],rd_Prog fun p=>rd_Ty fun t=>rdZ fun off=>rdZ fun size _=>[.z (b2i (ax p.ctx t off size))],oP⟩
def ai9:E:=(.bin .add .i64 (.bin .add .i64 (.var 10) (.var 11)) (.var 12))
def abI:Tr:=
(.br (.eq (.var 2) (.lit 2))
(.br (.lt (.var 12) (.lit 1))
 zlF
(.br (.lt (.lit 8) (.var 12))
 zlF
(.call 0 [.int .i64] (.cons (.conv .u64 (.var 12)) .nil) 13
(.br (.eq (.var 13) (.lit 1))
(.br (.lt (.var 11) (.lit (-1048576)))
 zlF
(.br (.lt (.lit 1048576) (.var 11))
 zlF
(.br (.lt (.var 9) (.lit (-1048576)))
 zlF
(.br (.lt (.lit 1048576) (.var 9))
 zlF
(.br (.lt (.var 10) (.lit (-1048576)))
 zlF
(.br (.lt (.lit 1048576) (.var 10))
 zlF
(.br (.lt (.var 10) (.var 9))
 zlF
(.br (.lt (.bin .add .i64 (.var 9) (.var 11)) (.lit 0))
 zlF
(.leaf (.consb (.not (.lt (.var 0) ai9)) .nil))))))))))
 zlF))))
(.br (.eq (.var 2) (.lit 3))
(.br (.lt (.var 12) (.lit 1))
 zlF
(.br (.lt (.lit 8) (.var 12))
 zlF
(.call 0 [.int .i64] (.cons (.conv .u64 (.var 12)) .nil) 13
(.br (.eq (.var 13) (.lit 1))
(.br (.lt (.var 11) (.lit (-1048576)))
 zlF
(.br (.lt (.lit 1048576) (.var 11))
 zlF
(.br (.lt (.var 9) (.lit (-1048576)))
 zlF
(.br (.lt (.lit 1048576) (.var 9))
 zlF
(.br (.lt (.var 10) (.lit (-1048576)))
 zlF
(.br (.lt (.lit 1048576) (.var 10))
 zlF
(.br (.lt (.var 10) (.var 9))
 zlF
(.br (.lt (.bin .add .i64 (.var 9) (.var 11)) (.lit 0))
 zlF
(.leaf (.consb (.not (.lt (.lit 64) ai9)) .nil))))))))))
 zlF))))
 zlF))
theorem amF:bp tZ (smN 0 [c_vcnt]) [(53,Tryz.f53,[],[]),(55,Tryz.f55,[],[])] [(999997,[])] [] 200 Tryz.f18 c_vwi.a c_vwi.r (tp c_vwi.r) (v_Prog (v_Ty [.int .i64,.int .i64])) abI:=trI (by kernel_rfl)
theorem anm:c_vwi.Ok Tryz.prog:=
 okc (hl:=.inr (.inl ⟨(fun xs (h:oP xs) L hL=>by unfold oP at h;split at h<;>first | exact h.elim | (simp at hL;subst hL;exact h)),rfl⟩)) abI (v_Prog (v_Ty [.int .i64,.int .i64])) jR (olc anr ol0) Tryz.func18 (fnc Tryz.func53 (fnc Tryz.func55 fn0)) amF<|eW fun p hp=>bE fun t ht=>fun off hoff size hsize hp U g=>by
 simp only[c_vwi,oP,cC,q_Ty,b2i_one,bj,bn,ai,ap] at hp
 simp only[cC,q_Ty,gS1,Nat.reduceAdd] at g
 simp only[abI,ai9,spQ,c_vcnt,rdZ,rdB,rdL,c_vwi,uC,cC,q_Ty,simQ,ab,S1,Nat.reduceSub,Nat.reduceAdd,-eq_self,bj,bn,ai,ap,g]
 constructor<;>intro c0
 constructor<;>intro c1
 ·(simp_all [ax,tptr,aN,far2,opI,pcnt,aL,bc]<;>first | omega | (rw[ao];simp;omega))
 constructor<;>intro c2
 ·(simp_all [ax,tptr,aN,far2,opI,pcnt,aL,bc]<;>first | omega | (rw[ao];simp;omega))
 refine⟨?_,?_⟩
 ·(show 1<=IntKind.u64.wrap size/\IntKind.u64.wrap size<=8;rw[bc];have:=thm2 c1;have:=thm2 c2;omega)
 refine adp ?_
 constructor<;>intro c3
 constructor<;>intro c4
 ·(simp_all [ax,tptr,aN,far2,opI,pcnt,aL,bc]<;>first | omega | (rw[ao];simp;omega))
 constructor<;>intro c5
 ·(simp_all [ax,tptr,aN,far2,opI,pcnt,aL,bc]<;>first | omega | (rw[ao];simp;omega))
 constructor<;>intro c6
 ·(simp_all [ax,tptr,aN,far2,opI,pcnt,aL,bc]<;>first | omega | (rw[ao];simp;omega))
 constructor<;>intro c7
 ·(simp_all [ax,tptr,aN,far2,opI,pcnt,aL,bc]<;>first | omega | (rw[ao];simp;omega))
 constructor<;>intro c8
 ·(simp_all [ax,tptr,aN,far2,opI,pcnt,aL,bc]<;>first | omega | (rw[ao];simp;omega))
 constructor<;>intro c9
 ·(simp_all [ax,tptr,aN,far2,opI,pcnt,aL,bc]<;>first | omega | (rw[ao];simp;omega))
 constructor<;>intro c10
 ·(simp_all [ax,tptr,aN,far2,opI,pcnt,aL,bc]<;>first | omega | (rw[ao];simp;omega))
 constructor<;>intro c11
 ·(simp_all [ax,tptr,aN,far2,opI,pcnt,aL,bc]<;>first | omega | (rw[ao];simp;omega))
 ·(simp_all [ax,tptr,aN,far2,opI,pcnt,aL,bc]<;>first | omega | (rw[ao];simp;omega))
 ·(simp_all [ax,tptr,aN,far2,opI,pcnt,aL,bc]<;>first | omega | (rw[ao];simp;omega))
 constructor<;>intro c12
 constructor<;>intro c13
 ·(simp_all [ax,tptr,aN,far2,opI,pcnt,aL,bc]<;>first | omega | (rw[ao];simp;omega))
 constructor<;>intro c14
 ·(simp_all [ax,tptr,aN,far2,opI,pcnt,aL,bc]<;>first | omega | (rw[ao];simp;omega))
 refine⟨?_,?_⟩
 ·(show 1<=IntKind.u64.wrap size/\IntKind.u64.wrap size<=8;rw[bc];have:=thm2 c13;have:=thm2 c14;omega)
 refine adp ?_
 constructor<;>intro c15
 constructor<;>intro c16
 ·(simp_all [ax,tptr,aN,far2,opI,pcnt,aL,bc]<;>first | omega | (rw[ao];simp;omega))
 constructor<;>intro c17
 ·(simp_all [ax,tptr,aN,far2,opI,pcnt,aL,bc]<;>first | omega | (rw[ao];simp;omega))
 constructor<;>intro c18
 ·(simp_all [ax,tptr,aN,far2,opI,pcnt,aL,bc]<;>first | omega | (rw[ao];simp;omega))
 constructor<;>intro c19
 ·(simp_all [ax,tptr,aN,far2,opI,pcnt,aL,bc]<;>first | omega | (rw[ao];simp;omega))
 constructor<;>intro c20
 ·(simp_all [ax,tptr,aN,far2,opI,pcnt,aL,bc]<;>first | omega | (rw[ao];simp;omega))
 constructor<;>intro c21
 ·(simp_all [ax,tptr,aN,far2,opI,pcnt,aL,bc]<;>first | omega | (rw[ao];simp;omega))
 constructor<;>intro c22
 ·(simp_all [ax,tptr,aN,far2,opI,pcnt,aL,bc]<;>first | omega | (rw[ao];simp;omega))
 constructor<;>intro c23
 ·(simp_all [ax,tptr,aN,far2,opI,pcnt,aL,bc]<;>first | omega | (rw[ao];simp;omega))
 ·(simp_all [ax,tptr,aN,far2,opI,pcnt,aL,bc]<;>first | omega | (rw[ao];simp;omega))
 ·(simp_all [ax,tptr,aN,far2,opI,pcnt,aL,bc]<;>first | omega | (rw[ao];simp;omega))
 ·(simp_all [ax,tptr,aN,far2,opI,pcnt,aL,bc]<;>first | omega | (rw[ao];simp;omega))
def nb:List Dt->Prop
 | [.z x0,.l x1,.l x2,.z x3,.z x4,.z x5,.z x6,.z x7,.z x8,.z x9,.z x10,.z x11]=>let f (p:Prog) (x:List (List Int)) (t:Ty):Prop:=x.length=1/\p.l.length<=maxLen;f ⟨x0,x1⟩ x2 ⟨x3,x4,x5,x6,x7,x8,x9,x10,x11⟩
 | _=>False
def c_vacc:Cd:=⟨80,[.ptr kProg,.one (.el (kN 9 220090000) 39),.agg kTy],[.one (.int .i64),.one (.int .i64),.one .bool],rd_Prog fun p=>rdL fun x=>rd_Ty fun t _=>[.z (opI .add .i64 t.lo (aa x 0).off),.z (opI .add .i64 t.hi (aa x 0).off),.z (b2i (ax p.ctx t (aa x 0).off (aa x 0).sz))],nb⟩
def abT:Tr:=
(.br (.lt (.lit 0) (.len (.lw 2)))
(.call 0 [.bool] (.cons (.var 0) (.cL (.lw 1) (.vs 3 9 (.cons (.get (.lw 2) (.lit 0) 7) (.cons (.conv .i64 (.get (.lw 2) (.lit 0) 3)) .nil))))) 12
(.leaf (.cons (.bin .add .i64 (.var 10) (.get (.lw 2) (.lit 0) 7)) (.cons (.bin .add .i64 (.var 11) (.get (.lw 2) (.lit 0) 7)) (.consb (.bw 12) .nil)))))
(.stuck 54))
theorem anu:c_vacc.Ok Tryz.prog:=
 oks (hl:=.inr (.inl ⟨(fun xs (h:nb xs) L hL=>by unfold nb at h;split at h<;>first | exact h.elim | (simp at hL;rcases hL with rfl | rfl;exact h.2;rw[h.1];unfold maxLen;omega)),rfl⟩)) abT (v_Prog (.list (kN 9 220090000)::v_Ty [])) jR (olc anm ol0) Tryz.func80<|eW fun p hp=>fun x hx=>bE fun t ht hp U g=>by
 simp only[c_vacc,nb,cC,q_Ty,b2i_one,bj,bn,ai,ap] at hp
 simp only[cC,q_Ty,gS1,Nat.reduceAdd] at g
 simp only[abT,spQ,c_vwi,rdZ,rdB,rdL,c_vacc,oP,cC,q_Ty,simQ,ab,S1,Nat.reduceSub,Nat.reduceAdd,-eq_self,bj,bn,ai,ap,g]
 constructor<;>intro c0
 refine⟨?_,?_⟩
 ·exact hp.2
 refine adp ?_
 ·(rw[anZ (an3 (fun r hr=>sE (hx.row r hr) (c:=3) (k:=some .i8) rfl) 0)];rfl)
 ·(rw[hp.1] at c0;simp at c0)
def c_vsca:Cd:=⟨78,[.agg kSc],[.agg kTy],rd_Sc fun s _=>d_Ty (ty 1 s 0 0) [],T0⟩
def abJ:Tr:=
(.leaf (.cons (.lit 1) (.vs 0 6 (.cons (.lit 0) (.cons (.lit 0) .nil)))))
theorem ann:c_vsca.Ok Tryz.prog:=
 oks abJ (v_Sc []) jR ol0 Tryz.func78<|cM fun s hs hp U g=>by
 simp only[q_Sc,q_Ty,gS1,Nat.reduceAdd] at g
 simp only[abJ,spQ,rdZ,rdB,rdL,c_vsca,q_Sc,q_Ty,simQ,ab,S1,Nat.reduceSub,Nat.reduceAdd,-eq_self,bj,bn,ai,ap,g]
 ·rfl
theorem nC {p q q2:Prop} (k:q2) (h:p->q=q2:=by intro e;(try simp only[e,bj,bn,ai,ap,-eq_self]);rfl):p->q:=fun e=>(h e).symm▸k
def ake:List (Nat×TI):=[(2,tiq2),
 (3,tiq3),
 (37,dS),
 (42,dR),
 (44,ew),
 (46,fR),
 (48,cK),
 (50,jT),
 (51,mK),
 (52,mJ),
 (54,uf)]
theorem mH:∀t i,(t,i)∈ake->TIok Tryz.prog t i:=aV (fac (z:=z_Sc) ⟨kG,fN⟩<|fac (z:=z_Ty) ⟨kF,fM⟩ fa0) fa0 (by kernel_rfl)
def c_tacc:Cd:=⟨146,[.agg kSta,.one (.int .i64),.one (.int .i64),.one (.int .i64)],[.one .bool],rd_Sta fun s=>rdZ fun lo=>rdZ fun hi=>rdZ fun size _=>[.z (b2i (smac s lo hi size))],T0⟩
def abZ:Tr:=
(.br (.eq (.var 173) (.lit 1))
(.br (.lt (.var 171) (.lit 0))
 zlF
(.br (.lt (.var 172) (.var 171))
 zlF
(.br (.lt (.bin .sub .i64 (.lit 64) (.var 173)) (.var 172))
 zlF
(.call 0 [.bool] (.vs 0 171 .nil) 174
(.leaf (.consb (.bw 174) .nil))))))
(.br (.eq (.var 173) (.lit 2))
(.br (.lt (.var 171) (.lit 0))
 zlF
(.br (.lt (.var 172) (.var 171))
 zlF
(.br (.lt (.bin .sub .i64 (.lit 64) (.var 173)) (.var 172))
 zlF
(.call 0 [.bool] (.vs 0 171 .nil) 174
(.leaf (.consb (.bw 174) .nil))))))
(.br (.eq (.var 173) (.lit 4))
(.br (.lt (.var 171) (.lit 0))
 zlF
(.br (.lt (.var 172) (.var 171))
 zlF
(.br (.lt (.bin .sub .i64 (.lit 64) (.var 173)) (.var 172))
 zlF
(.call 0 [.bool] (.vs 0 171 .nil) 174
(.leaf (.consb (.bw 174) .nil))))))
(.br (.eq (.var 173) (.lit 8))
(.br (.lt (.var 171) (.lit 0))
 zlF
(.br (.lt (.var 172) (.var 171))
 zlF
(.br (.lt (.bin .sub .i64 (.lit 64) (.var 173)) (.var 172))
 zlF
(.call 0 [.bool] (.vs 0 171 .nil) 174
(.leaf (.consb (.bw 174) .nil))))))
 zlF))))
theorem aie:c_tacc.Ok Tryz.prog:=
 oks abZ (v_Sta [.int .i64,.int .i64,.int .i64]) mH (olc aic ol0) Tryz.func146<|eF fun s hs=>fun lo hlo hi hhi size hsize hp U g=>by
 simp only[c_tacc,bN,ee,rdZ,rdB,rdL]
 simp only[eU,q_Ty,gS1,Nat.reduceAdd] at g
 simp(maxSteps:=10000000) only[abZ,spQ,c_tmay,rdZ,rdB,rdL,c_tacc,eU,q_Ty,simQ,ab,S1,Nat.reduceSub,Nat.reduceAdd,-eq_self,bj,bn,ai,ap,g]
 constructor<;>intro c0
 constructor<;>intro c1
 ·rw[ia c1]
 constructor<;>intro c2
 ·rw[ic c2]
 constructor<;>intro c3
 ·rw[me c3]
 refine nC ?_
 ·rw[ib (.inl c0) c1 c2,c3,Bool.not_false,Bool.true_and]
 constructor<;>intro c4
 constructor<;>intro c5
 ·rw[ia c5]
 constructor<;>intro c6
 ·rw[ic c6]
 constructor<;>intro c7
 ·rw[me c7]
 refine nC ?_
 ·rw[ib (.inr (.inl c4)) c5 c6,c7,Bool.not_false,Bool.true_and]
 constructor<;>intro c8
 constructor<;>intro c9
 ·rw[ia c9]
 constructor<;>intro c10
 ·rw[ic c10]
 constructor<;>intro c11
 ·rw[me c11]
 refine nC ?_
 ·rw[ib (.inr (.inr (.inl c8))) c9 c10,c11,Bool.not_false,Bool.true_and]
 constructor<;>intro c12
 constructor<;>intro c13
 ·rw[ia c13]
 constructor<;>intro c14
 ·rw[ic c14]
 constructor<;>intro c15
 ·rw[me c15]
 refine nC ?_
 ·rw[ib (.inr (.inr (.inr c12))) c13 c14,c15,Bool.not_false,Bool.true_and]
 ·rw[rZ c0 c4 c8 c12]
def c_texa:Cd:=⟨147,[.one (.int .i64),.one (.int .i64),.one (.int .i64)],[.one (.int .i64),.one .bool],rdZ fun lo=>rdZ fun hi=>rdZ fun size _=>[.z (opI .quo .i64 lo 8),.z (b2i (sone lo hi size))],T0⟩
def ai8:Tr:=(.leaf (.cons (.bin .quo .i64 (.var 0) (.lit 8)) (.consb (.tt false) .nil)))
def abY:Tr:=
(.br (.eq (.var 2) (.lit 8))
(.br (.eq (.var 0) (.var 1))
(.leaf (.cons (.bin .quo .i64 (.var 0) (.lit 8)) (.consb (.eq (.bin .rem .i64 (.var 0) (.lit 8)) (.lit 0)) .nil)))
 ai8)
 ai8)
theorem aid:c_texa.Ok Tryz.prog:=
 oks abY [.int .i64,.int .i64,.int .i64] mH ol0 Tryz.func147<|fun lo hlo hi hhi size hsize hp U g=>by
 simp only[gS1,Nat.reduceAdd] at g
 simp only[abY,ai8,spQ,rdZ,rdB,rdL,c_texa,simQ,ab,S1,Nat.reduceSub,Nat.reduceAdd,-eq_self,bj,bn,ai,ap,g]
 constructor<;>intro c0
 constructor<;>intro c1
 ·unfold sone;rw[c0,c1];rfl
 ·rw[mP c1]
 ·rw[mQ c0]
def c_tload:Cd:=⟨82,[.agg kSta,.one (.int .i64),.one (.int .i64),.one (.int .i64)],[.agg kTy,.one (.int .i64)],rd_Sta fun s=>rdZ fun lo=>rdZ fun hi=>rdZ fun size _=>d_Ty (mS s lo hi size) [.z (mT s lo hi size)],T0⟩
def wv:Tr:=
(.call 0 [.bool] (.vs 0 174 .nil) 174
(.br (.bw 174)
(.call 1 [.int .i64,.bool] (.vs 171 3 .nil) 175
(.br (.bw 176)
(.br (.eq (.var 175) (.lit 0))
(.leaf (.vs 99 9 (.cons (.lit 0) .nil)))
(.br (.eq (.var 175) (.lit 1))
(.leaf (.vs 108 9 (.cons (.lit 0) .nil)))
(.br (.eq (.var 175) (.lit 2))
(.leaf (.vs 117 9 (.cons (.lit 0) .nil)))
(.br (.eq (.var 175) (.lit 3))
(.leaf (.vs 126 9 (.cons (.lit 0) .nil)))
(.br (.eq (.var 175) (.lit 4))
(.leaf (.vs 135 9 (.cons (.lit 0) .nil)))
(.br (.eq (.var 175) (.lit 5))
(.leaf (.vs 144 9 (.cons (.lit 0) .nil)))
(.br (.eq (.var 175) (.lit 6))
(.leaf (.vs 153 9 (.cons (.lit 0) .nil)))
(.br (.eq (.var 175) (.lit 7))
(.leaf (.vs 162 9 (.cons (.lit 0) .nil)))
.panic))))))))
(.call 2 (kSc) (.cons (.var 173) .nil) 177
(.leaf (.cons (.lit 1) (.vs 177 6 (.zs [0,0,0] .nil)))))))
(.leaf (.zs [0,0,0,0,0,0,0,0,0,2] .nil))))
theorem alF:c_tload.Ok Tryz.prog:=
 oks wv (v_Sta [.int .i64,.int .i64,.int .i64]) mH (olc aie<|olc aid<|olc alD ol0) Tryz.func82<|eF fun s hs=>fun lo hlo hi hhi size hsize hp U g=>by
 simp only[c_tload,bN,ee,rdZ,rdB,rdL]
 simp only[eU,q_Ty,q_Sc,gS1,Nat.reduceAdd] at g
 simp(maxSteps:=10000000) only[wv,spQ,c_tacc,c_texa,c_vby,rdZ,rdB,rdL,c_tload,eU,q_Ty,q_Sc,simQ,ab,S1,Nat.reduceSub,Nat.reduceAdd,-eq_self,bj,bn,ai,ap,g]
 refine nC ?_
 constructor<;>intro c0
 refine nC ?_
 constructor<;>intro c1
 constructor<;>intro c2
 ·rw[(ay c0 c1).1,(ay c0 c1).2,eqz c2];rfl
 constructor<;>intro c3
 ·rw[(ay c0 c1).1,(ay c0 c1).2,eqz c3];rfl
 constructor<;>intro c4
 ·rw[(ay c0 c1).1,(ay c0 c1).2,eqz c4];rfl
 constructor<;>intro c5
 ·rw[(ay c0 c1).1,(ay c0 c1).2,eqz c5];rfl
 constructor<;>intro c6
 ·rw[(ay c0 c1).1,(ay c0 c1).2,eqz c6];rfl
 constructor<;>intro c7
 ·rw[(ay c0 c1).1,(ay c0 c1).2,eqz c7];rfl
 constructor<;>intro c8
 ·rw[(ay c0 c1).1,(ay c0 c1).2,eqz c8];rfl
 constructor<;>intro c9
 ·rw[(ay c0 c1).1,(ay c0 c1).2,eqz c9];rfl
 ·exact qx c0 rfl c2 c3 c4 c5 c6 c7 c8 c9
 refine nC ?_
 ·rw[(dz c0 c1).1,(dz c0 c1).2];rfl
 ·rw[(mf c0).1,(mf c0).2];rfl
theorem xp {p q q2:Prop} (k:q2) (h:p->q=q2:=by intro e;(try simp only[e,bj,bn,ai,ap,-eq_self]);rfl):p->q:=fun e=>(h e).symm▸k
def aaK:List (Nat×TI):=[(2,tiq2),
 (3,tiq3),
 (37,dS),
 (42,dR),
 (44,ew),
 (46,fR),
 (48,cK),
 (50,jT),
 (51,mK),
 (52,mJ),
 (54,uf)]
theorem aax:∀t i,(t,i)∈aaK->TIok Tryz.prog t i:=aV (fac (z:=z_Sc) ⟨kG,fN⟩<|fac (z:=z_Ty) ⟨kF,fM⟩ fa0) fa0 (by kernel_rfl)
def c_tstore:Cd:=⟨83,[.agg kSta,.one (.int .i64),.one (.int .i64),.one (.int .i64),.agg kTy],[.agg kSta,.one (.int .i64)],rd_Sta fun s=>rdZ fun lo=>rdZ fun hi=>rdZ fun size=>rd_Ty fun t _=>d_Sta (hJ s lo hi size t) [.z (mO s lo hi size t)],T0⟩
def mX:Tr:=
(.call 0 [.bool] (.vs 0 174 .nil) 183
(.br (.bw 183)
(.br (.eq (.var 174) (.lit 0))
(.leaf (.zs [0,0,0,0,0,0,0,0,0,0,0,0,0,0,0,0,0,0,0,0,0,0,0,0,0,0,0,0,0,0,0,0,0,0,0,0,0,0,0,0,0,0,0,0,0,0,0,0,0,0,0,0,0,0,0,0,0,0,0,0,0,0,0,0,0,0,0,0,0,0,0,0,0,0,0,0,0,0,0,0,0,0,0,0,0,0,0,0,0,0,0,0,0,0,0,0,0,0,0,0,0,0,0,0,0,0,0,0,0,0,0,0,0,0,0,0,0,0,0,0,0,0,0,0,0,0,0,0,0,0,0,0,0,0,0,0,0,0,0,0,0,0,0,0,0,0,0,0,0,0,0,0,0,0,0,0,0,0,0,0,0,0,0,0,0,0,0,0,0,0,0,2] .nil))
(.call 2 [.bool] (.vs 174 9 .nil) 184
(.br (.bw 184)
(.call 1 [.int .i64,.bool] (.vs 171 3 .nil) 185
(.br (.bw 186)
(.br (.eq (.var 185) (.lit 0))
(.leaf (.vs 0 99 (.vs 174 9 (.vs 108 63 (.cons (.lit 0) .nil)))))
(.br (.eq (.var 185) (.lit 1))
(.leaf (.vs 0 108 (.vs 174 9 (.vs 117 54 (.cons (.lit 0) .nil)))))
(.br (.eq (.var 185) (.lit 2))
(.leaf (.vs 0 117 (.vs 174 9 (.vs 126 45 (.cons (.lit 0) .nil)))))
(.br (.eq (.var 185) (.lit 3))
(.leaf (.vs 0 126 (.vs 174 9 (.vs 135 36 (.cons (.lit 0) .nil)))))
(.br (.eq (.var 185) (.lit 4))
(.leaf (.vs 0 135 (.vs 174 9 (.vs 144 27 (.cons (.lit 0) .nil)))))
(.br (.eq (.var 185) (.lit 5))
(.leaf (.vs 0 144 (.vs 174 9 (.vs 153 18 (.cons (.lit 0) .nil)))))
(.br (.eq (.var 185) (.lit 6))
(.leaf (.vs 0 153 (.vs 174 9 (.vs 162 9 (.cons (.lit 0) .nil)))))
(.br (.eq (.var 185) (.lit 7))
(.leaf (.vs 0 162 (.vs 174 9 (.cons (.lit 0) .nil))))
.panic))))))))
(.loop 0 187 [.int .i64,.int .i8,.int .u64,.int .u64,.int .i64,.int .i64,.int .u64,.int .u64,.int .i64,.int .i64,.int .i8,.int .u64,.int .u64,.int .i64,.int .i64,.int .u64,.int .u64,.int .i64,.int .i64,.int .i8,.int .u64,.int .u64,.int .i64,.int .i64,.int .u64,.int .u64,.int .i64,.int .i64,.int .i8,.int .u64,.int .u64,.int .i64,.int .i64,.int .u64,.int .u64,.int .i64,.int .i64,.int .i8,.int .u64,.int .u64,.int .i64,.int .i64,.int .u64,.int .u64,.int .i64,.int .i64,.int .i8,.int .u64,.int .u64,.int .i64,.int .i64,.int .u64,.int .u64,.int .i64,.int .i64,.int .i8,.int .u64,.int .u64,.int .i64,.int .i64,.int .u64,.int .u64,.int .i64,.int .i64,.int .i8,.int .u64,.int .u64,.int .i64,.int .i64,.int .u64,.int .u64,.int .i64,.int .i64] (.cons (.bin .quo .i64 (.var 171) (.lit 8)) (.vs 99 72 .nil))
(.br (.lt (.bin .quo .i64 (.bin .sub .i64 (.bin .add .i64 (.var 172) (.var 173)) (.lit 1)) (.lit 8)) (.var 187))
(.leaf (.vs 0 99 (.vs 188 72 (.cons (.lit 0) .nil))))
(.call 3 (kTy) .nil 260
(.br (.eq (.var 187) (.lit 0))
(.next 0 (.cons (.bin .add .i64 (.var 187) (.lit 1)) (.vs 260 9 (.vs 197 63 .nil))))
(.br (.eq (.var 187) (.lit 1))
(.next 0 (.cons (.bin .add .i64 (.var 187) (.lit 1)) (.vs 188 9 (.vs 260 9 (.vs 206 54 .nil)))))
(.br (.eq (.var 187) (.lit 2))
(.next 0 (.cons (.bin .add .i64 (.var 187) (.lit 1)) (.vs 188 18 (.vs 260 9 (.vs 215 45 .nil)))))
(.br (.eq (.var 187) (.lit 3))
(.next 0 (.cons (.bin .add .i64 (.var 187) (.lit 1)) (.vs 188 27 (.vs 260 9 (.vs 224 36 .nil)))))
(.br (.eq (.var 187) (.lit 4))
(.next 0 (.cons (.bin .add .i64 (.var 187) (.lit 1)) (.vs 188 36 (.vs 260 9 (.vs 233 27 .nil)))))
(.br (.eq (.var 187) (.lit 5))
(.next 0 (.cons (.bin .add .i64 (.var 187) (.lit 1)) (.vs 188 45 (.vs 260 9 (.vs 242 18 .nil)))))
(.br (.eq (.var 187) (.lit 6))
(.next 0 (.cons (.bin .add .i64 (.var 187) (.lit 1)) (.vs 188 54 (.vs 260 9 (.vs 251 9 .nil)))))
(.br (.eq (.var 187) (.lit 7))
(.next 0 (.cons (.bin .add .i64 (.var 187) (.lit 1)) (.vs 188 63 (.vs 260 9 .nil))))
.panic)))))))))))))
(.leaf (.zs [0,0,0,0,0,0,0,0,0,0,0,0,0,0,0,0,0,0,0,0,0,0,0,0,0,0,0,0,0,0,0,0,0,0,0,0,0,0,0,0,0,0,0,0,0,0,0,0,0,0,0,0,0,0,0,0,0,0,0,0,0,0,0,0,0,0,0,0,0,0,0,0,0,0,0,0,0,0,0,0,0,0,0,0,0,0,0,0,0,0,0,0,0,0,0,0,0,0,0,0,0,0,0,0,0,0,0,0,0,0,0,0,0,0,0,0,0,0,0,0,0,0,0,0,0,0,0,0,0,0,0,0,0,0,0,0,0,0,0,0,0,0,0,0,0,0,0,0,0,0,0,0,0,0,0,0,0,0,0,0,0,0,0,0,0,0,0,0,0,0,0,2] .nil)))))
(.leaf (.zs [0,0,0,0,0,0,0,0,0,0,0,0,0,0,0,0,0,0,0,0,0,0,0,0,0,0,0,0,0,0,0,0,0,0,0,0,0,0,0,0,0,0,0,0,0,0,0,0,0,0,0,0,0,0,0,0,0,0,0,0,0,0,0,0,0,0,0,0,0,0,0,0,0,0,0,0,0,0,0,0,0,0,0,0,0,0,0,0,0,0,0,0,0,0,0,0,0,0,0,0,0,0,0,0,0,0,0,0,0,0,0,0,0,0,0,0,0,0,0,0,0,0,0,0,0,0,0,0,0,0,0,0,0,0,0,0,0,0,0,0,0,0,0,0,0,0,0,0,0,0,0,0,0,0,0,0,0,0,0,0,0,0,0,0,0,0,0,0,0,0,0,2] .nil))))
theorem acL:bp aaK (smN 0 [c_tacc,c_texa,c_ttok,c_tscal]) [] [(8,[.tmpI 14 .i64,.cI 0 99 .i8,.cI 0 100 .u64,.cI 0 101 .u64,.cI 0 102 .i64,.cI 0 103 .i64,.cI 0 104 .u64,.cI 0 105 .u64,.cI 0 106 .i64,.cI 0 107 .i64,.cI 0 108 .i8,.cI 0 109 .u64,.cI 0 110 .u64,.cI 0 111 .i64,.cI 0 112 .i64,.cI 0 113 .u64,.cI 0 114 .u64,.cI 0 115 .i64,.cI 0 116 .i64,.cI 0 117 .i8,.cI 0 118 .u64,.cI 0 119 .u64,.cI 0 120 .i64,.cI 0 121 .i64,.cI 0 122 .u64,.cI 0 123 .u64,.cI 0 124 .i64,.cI 0 125 .i64,.cI 0 126 .i8,.cI 0 127 .u64,.cI 0 128 .u64,.cI 0 129 .i64,.cI 0 130 .i64,.cI 0 131 .u64,.cI 0 132 .u64,.cI 0 133 .i64,.cI 0 134 .i64,.cI 0 135 .i8,.cI 0 136 .u64,.cI 0 137 .u64,.cI 0 138 .i64,.cI 0 139 .i64,.cI 0 140 .u64,.cI 0 141 .u64,.cI 0 142 .i64,.cI 0 143 .i64,.cI 0 144 .i8,.cI 0 145 .u64,.cI 0 146 .u64,.cI 0 147 .i64,.cI 0 148 .i64,.cI 0 149 .u64,.cI 0 150 .u64,.cI 0 151 .i64,.cI 0 152 .i64,.cI 0 153 .i8,.cI 0 154 .u64,.cI 0 155 .u64,.cI 0 156 .i64,.cI 0 157 .i64,.cI 0 158 .u64,.cI 0 159 .u64,.cI 0 160 .i64,.cI 0 161 .i64,.cI 0 162 .i8,.cI 0 163 .u64,.cI 0 164 .u64,.cI 0 165 .i64,.cI 0 166 .i64,.cI 0 167 .u64,.cI 0 168 .u64,.cI 0 169 .i64,.cI 0 170 .i64]++tps [(0,2),(4,1),(6,4),(11,3),(15,46)])] [] 200 Tryz.f83 c_tstore.a c_tstore.r (tp c_tstore.r) (v_Sta (.int .i64::.int .i64::.int .i64::v_Ty [])) mX:=trI (by kernel_rfl)
theorem agz:c_tstore.Ok Tryz.prog:=
 okc mX (v_Sta (.int .i64::.int .i64::.int .i64::v_Ty [])) aax (olc aie<|olc aid<|olc aib<|olc vb ol0) Tryz.func83 fn0 acL<|eF fun s hs=>fun lo hlo hi hhi size hsize=>bE fun t ht hp U g=>by
 have keepg:=g
 simp only[c_tstore,bN,ee,rdZ,rdB,rdL]
 simp only[eU,q_Ty,gS1,Nat.reduceAdd] at g
 simp(maxSteps:=10000000) only[mX,spQ,c_tacc,c_texa,c_ttok,c_tscal,rdZ,rdB,rdL,c_tstore,eU,q_Ty,simQ,ab,S1,Nat.reduceSub,Nat.reduceAdd,-eq_self,bj,bn,ai,ap,g]
 refine xp ?_
 constructor<;>intro c0
 constructor<;>intro c1
 ·rw[(cA (.inr (vN c1))).1,(cA (.inr (vN c1))).2];rfl
 refine xp ?_
 constructor<;>intro c2
 refine xp ?_
 constructor<;>intro c3
 constructor<;>intro c4
 ·have e:=eqz c4
  rw[(au c0 (bg c1 c2) c3).1,(au c0 (bg c1 c2) c3).2,e];rfl
 constructor<;>intro c5
 ·have e:=eqz c5
  rw[(au c0 (bg c1 c2) c3).1,(au c0 (bg c1 c2) c3).2,e];rfl
 constructor<;>intro c6
 ·have e:=eqz c6
  rw[(au c0 (bg c1 c2) c3).1,(au c0 (bg c1 c2) c3).2,e];rfl
 constructor<;>intro c7
 ·have e:=eqz c7
  rw[(au c0 (bg c1 c2) c3).1,(au c0 (bg c1 c2) c3).2,e];rfl
 constructor<;>intro c8
 ·have e:=eqz c8
  rw[(au c0 (bg c1 c2) c3).1,(au c0 (bg c1 c2) c3).2,e];rfl
 constructor<;>intro c9
 ·have e:=eqz c9
  rw[(au c0 (bg c1 c2) c3).1,(au c0 (bg c1 c2) c3).2,e];rfl
 constructor<;>intro c10
 ·have e:=eqz c10
  rw[(au c0 (bg c1 c2) c3).1,(au c0 (bg c1 c2) c3).2,e];rfl
 constructor<;>intro c11
 ·have e:=eqz c11
  rw[(au c0 (bg c1 c2) c3).1,(au c0 (bg c1 c2) c3).2,e];rfl
 ·exact qx c0 rfl c4 c5 c6 c7 c8 c9 c10 c11
 obtain⟨q1,q2,q3,q4,q5⟩:=ig c0
 refine⟨fun ds=>∃n:Int,ds=.z n::sd (sput s (pbet (lo / 8) n) ea)/\lo / 8<=n/\n<=(hi+size-1) / 8+1,fun ds=>(100-dI ds 0).toNat,⟨lo / 8,by rw[quo8 q2 (by omega),jV (fun k h0 h1=>by unfold pbet;simp)];try rfl,by omega,by omega⟩,?_⟩
 intro U1 ha1 _ hi1
 obtain⟨n,hds,r1,r2⟩:=hi1
 simp only[sd,thm5,Dt.z.injEq,Nat.reduceAdd,and_true] at hds
 have keepg1:=(dF ha1 _ 0 (by decide)).trans keepg
 have g1:=keepg1
 simp only[eU,q_Ty,gS1,Nat.reduceAdd] at g1
 simp only[g1,hds,-eq_self]
 constructor<;>intro c12
 ·have h9:=thm3 c12
  have q6:=(cq c0).1
  rw[q6] at h9
  rw[(cU c0 (bg c1 c2) c3).1,(cU c0 (bg c1 c2) c3).2,<-al4 c0 (n:=n) (by omega) (by omega)];rfl
 refine xp ?_
 constructor<;>intro c13
 ·have h9:=thm2 c12
  have q6:=(cq c0).1
  rw[q6] at h9
  have e:=eqz c13
  subst e
  refine⟨⟨1,?_,by omega,by omega⟩,?_⟩
  ·rw[mc (q:=pbet (lo / 8) 1) (p:=pbet (lo / 8) 0) (fun k _ _=>fP (n:=0) (by omega))];rfl
  ·show(100-(1:Int)).toNat<(100-(0:Int)).toNat;decide
 constructor<;>intro c14
 ·have h9:=thm2 c12
  have q6:=(cq c0).1
  rw[q6] at h9
  have e:=eqz c14
  subst e
  refine⟨⟨2,?_,by omega,by omega⟩,?_⟩
  ·rw[lZ (q:=pbet (lo / 8) 2) (p:=pbet (lo / 8) 1) (fun k _ _=>fP (n:=1) (by omega))];rfl
  ·show(100-(2:Int)).toNat<(100-(1:Int)).toNat;decide
 constructor<;>intro c15
 ·have h9:=thm2 c12
  have q6:=(cq c0).1
  rw[q6] at h9
  have e:=eqz c15
  subst e
  refine⟨⟨3,?_,by omega,by omega⟩,?_⟩
  ·rw[lY (q:=pbet (lo / 8) 3) (p:=pbet (lo / 8) 2) (fun k _ _=>fP (n:=2) (by omega))];rfl
  ·show(100-(3:Int)).toNat<(100-(2:Int)).toNat;decide
 constructor<;>intro c16
 ·have h9:=thm2 c12
  have q6:=(cq c0).1
  rw[q6] at h9
  have e:=eqz c16
  subst e
  refine⟨⟨4,?_,by omega,by omega⟩,?_⟩
  ·rw[lX (q:=pbet (lo / 8) 4) (p:=pbet (lo / 8) 3) (fun k _ _=>fP (n:=3) (by omega))];rfl
  ·show(100-(4:Int)).toNat<(100-(3:Int)).toNat;decide
 constructor<;>intro c17
 ·have h9:=thm2 c12
  have q6:=(cq c0).1
  rw[q6] at h9
  have e:=eqz c17
  subst e
  refine⟨⟨5,?_,by omega,by omega⟩,?_⟩
  ·rw[lW (q:=pbet (lo / 8) 5) (p:=pbet (lo / 8) 4) (fun k _ _=>fP (n:=4) (by omega))];rfl
  ·show(100-(5:Int)).toNat<(100-(4:Int)).toNat;decide
 constructor<;>intro c18
 ·have h9:=thm2 c12
  have q6:=(cq c0).1
  rw[q6] at h9
  have e:=eqz c18
  subst e
  refine⟨⟨6,?_,by omega,by omega⟩,?_⟩
  ·rw[lV (q:=pbet (lo / 8) 6) (p:=pbet (lo / 8) 5) (fun k _ _=>fP (n:=5) (by omega))];rfl
  ·show(100-(6:Int)).toNat<(100-(5:Int)).toNat;decide
 constructor<;>intro c19
 ·have h9:=thm2 c12
  have q6:=(cq c0).1
  rw[q6] at h9
  have e:=eqz c19
  subst e
  refine⟨⟨7,?_,by omega,by omega⟩,?_⟩
  ·rw[lU (q:=pbet (lo / 8) 7) (p:=pbet (lo / 8) 6) (fun k _ _=>fP (n:=6) (by omega))];rfl
  ·show(100-(7:Int)).toNat<(100-(6:Int)).toNat;decide
 constructor<;>intro c20
 ·have h9:=thm2 c12
  have q6:=(cq c0).1
  rw[q6] at h9
  have e:=eqz c20
  subst e
  refine⟨⟨8,?_,by omega,by omega⟩,?_⟩
  ·rw[lT (q:=pbet (lo / 8) 8) (p:=pbet (lo / 8) 7) (fun k _ _=>fP (n:=7) (by omega))];rfl
  ·show(100-(8:Int)).toNat<(100-(7:Int)).toNat;decide
 ·have h9:=thm2 c12
  have q6:=(cq c0).1
  rw[q6] at h9
  simp only[beq_eq_false_iff_ne] at c13 c14 c15 c16 c17 c18 c19 c20
  omega
 ·rw[(cA (.inr (vM c2))).1,(cA (.inr (vM c2))).2];rfl
 ·rw[(cA (.inl c0)).1,(cA (.inl c0)).2];rfl
theorem az {p q q2:Prop} (k:q2) (h:p->q=q2:=by intro e;(try simp only[e,be,-eq_self]);rfl):p->q:=fun e=>(h e).symm▸k
def uc:List (Nat×TI):=[(37,dS),
 (42,dR),
 (46,fR)]
theorem dm:∀t i,(t,i)∈uc->TIok Tryz.prog t i:=aV fa0 fa0 (by kernel_rfl)
def c_rbits:Cd:=⟨129,[.one (.int .i8),.one (.int .i8),.one (.int .u64),.one (.int .u64)],[.one (.int .u64),.one (.int .i64)],rdZ fun op=>rdZ fun l=>rdZ fun x=>rdZ fun y _=>[.z (if okop op l=true then zdo op l x y else 0),.z (if okop op l=true then 0 else 2)],T0⟩
theorem afN (op:Int) (hop:inK .i8 op=true) (l:Int) (hl:inK .i8 l=true) (x:Int) (hx:inK .u64 x=true) (y:Int) (hy:inK .u64 y=true):(∀w,Calls Tryz.prog 129 #[.int .i8 op,.int .i8 l,.int .u64 x,.int .u64 y] w fun e w'=>e=.returned (.tuple #[.int .u64 (if okop op l=true then zdo op l x y else 0),.int .i64 (if okop op l=true then 0 else 2)])/\Ext w w')/\eu (.tuple #[.int .u64 (if okop op l=true then zdo op l x y else 0),.int .i64 (if okop op l=true then 0 else 2)])=true:=by
 have gx:=bB hx
 have gy:=bB hy
 cases hk:okop op l
 ·refine⟨fun w=>(ac4 op l x y w ?_).mono ?_,by simp[eu,dW,dY];decide⟩
  ·unfold okop at hk
   rw[Bool.and_eq_false_iff,Bool.and_eq_false_iff] at hk
   rcases hk with(hk | hk) | hk
   ·have:=thm2 hk
    simp;omega
   ·have:=thm2 hk
    simp;omega
   ·rw[hk];simp
  ·rintro e w' ⟨rfl,rfl⟩
   exact⟨by simp,Ext.refl _⟩
 ·unfold okop at hk
  simp only[thm0,ba] at hk
  have hz:=jt (aab op l x y gx.1 gx.2 gy.1 gy.2)
  refine⟨fun w=>(ac5 op l x y w gx.1 gx.2 gy.1 gy.2 hk.1.1 hk.1.2 hk.2).mono ?_,by simp[eu,dW,dY,hz];decide⟩
  rintro e w' ⟨rfl,hx⟩
  first
  | exact⟨by simp,hx⟩
  | (subst hx;exact⟨by simp,Ext.refl _⟩)
theorem adU:c_rbits.Ok Tryz.prog:=fun hF hP=>by
 refine SmOk.pure (s:=c_rbits.m _) hF rfl rfl fun xs vals w h=> ?_
 obtain⟨_,_,_,rfl,⟨x0,rfl,rfl,gx0⟩,h⟩:=h
 obtain⟨_,_,_,rfl,⟨x1,rfl,rfl,gx1⟩,h⟩:=h
 obtain⟨_,_,_,rfl,⟨x2,rfl,rfl,gx2⟩,h⟩:=h
 obtain⟨_,_,_,rfl,⟨x3,rfl,rfl,gx3⟩,h⟩:=h
 obtain⟨rfl,rfl⟩:=h
 have q:=afN x0 gx0 x1 gx1 x2 gx2 x3 gx3
 refine⟨_,.inr ⟨cW Tryz.func129 (by kernel_rfl) (by kernel_rfl) _ w,q.1 w⟩,?_,fun U v0 nid j he=> ?_⟩
 ·have q2:=q.2
  simp[eu,dW,dY] at q2
  simp[c_rbits,Cd.m,tp,rdZ,rdB,rdL,List.flatMap_cons,List.flatMap_nil,Sh.cks,List.append_nil,List.cons_append,List.nil_append,b2i_one,fu,q2]
 ·simp only[c_rbits,Cd.m,tp,rdZ,rdB,rdL,List.flatMap_cons,List.flatMap_nil,Sh.cks,List.append_nil,List.cons_append,List.nil_append,b2i_one,eqs,dI,dB,ce,jw,bG,Nat.add_zero,Nat.reduceAdd,and_true] at he
  simp[c_rbits,Cd.m,tp,rdZ,rdB,rdL,List.flatMap_cons,List.flatMap_nil,Sh.cks,List.append_nil,List.cons_append,List.nil_append,b2i_one,eK,bl,aG,V.den,C.den,denL,den0,bK,E.I,E.B,he]
def c_qmay:Cd:=⟨167,[.agg kKn],[.one .bool],rd_Kn fun a _=>[.z (b2i (kmay a))],T0⟩
def acb:Tr:=
(.leaf (.consb (.eq (.bin .and .u64 (.var 0) (.var 1)) (.lit 0)) .nil))
theorem xF:c_qmay.Ok Tryz.prog:=
 oks acb (v_Kn []) dm ol0 Tryz.func167<|bF fun a ha hp U g=>by
 simp only[q_Kn,gS1,Nat.reduceAdd] at g
 simp only[acb,spQ,rdZ,rdB,rdL,c_qmay,q_Kn,simQ,ab,S1,Nat.reduceSub,Nat.reduceAdd,-eq_self,iR,g]
 ·rfl
def c_qall:Cd:=⟨101,[],[.agg kKn],fun _=>d_Kn kall [],T0⟩
def acf:Tr:=
(.leaf (.cons (.lit 0) (.cons (.lit 18446744073709551615) .nil)))
theorem nM:c_qall.Ok Tryz.prog:=
 oks acf [] dm ol0 Tryz.func101<|fun hp U g=>by
 simp only[acf,spQ,rdZ,rdB,rdL,c_qall,q_Kn,simQ,ab,S1,Nat.reduceSub,Nat.reduceAdd,-eq_self,Sc.eta_r,Sc.eta_k,Sc.eta_2]
 ·rfl
def c_qone:Cd:=⟨96,[.one (.int .u64)],[.agg kKn],rdZ fun v _=>d_Kn (kone v) [],T0⟩
def aca:Tr:=
(.leaf (.cons (.var 0) (.cons (.lit 0) .nil)))
theorem aih:c_qone.Ok Tryz.prog:=
 oks aca [.int .u64] dm ol0 Tryz.func96<|fun v hv hp U g=>by
 simp only[q_Kn,gS1,Nat.reduceAdd] at g
 simp only[aca,spQ,rdZ,rdB,rdL,c_qone,q_Kn,simQ,ab,S1,Nat.reduceSub,Nat.reduceAdd,-eq_self,Sc.eta_r,Sc.eta_k,Sc.eta_2,g]
 ·rfl
def c_qmeet:Cd:=⟨171,[.agg kKn,.agg kKn],[.agg kKn,.one .bool],rd_Kn fun a=>rd_Kn fun b _=>d_Kn (ja a b) [.z (b2i (dC a b))],T0⟩
def ai7:Tr:=(.call 1 (kKn) .nil 6
(.leaf (.vs 6 2 (.consb (.tt false) .nil))))
def wA:Tr:=
(.call 0 [.bool] (.vs 0 2 .nil) 4
(.br (.bw 4)
(.call 0 [.bool] (.vs 2 2 .nil) 5
(.br (.bw 5)
(.br (.eq (.bin .andNot .u64 (.bin .xor .u64 (.var 0) (.var 2)) (.bin .or .u64 (.var 1) (.var 3))) (.lit 0))
(.leaf (.cons (.bin .or .u64 (.var 0) (.var 2)) (.cons (.bin .and .u64 (.var 1) (.var 3)) (.consb (.tt true) .nil))))
 ai7)
 ai7))
(.call 1 (kKn) .nil 5
(.leaf (.vs 5 2 (.consb (.tt false) .nil))))))
theorem adV:c_qmeet.Ok Tryz.prog:=
 oks wA (v_Kn (v_Kn [])) dm (olc xF<|olc nM ol0) Tryz.func171<|bF fun a ha=>bF fun b hb hp U g=>by
 simp only[q_Kn,gS1,Nat.reduceAdd] at g
 simp only[wA,ai7,spQ,c_qmay,c_qall,rdZ,rdB,rdL,c_qmeet,q_Kn,simQ,ab,S1,Nat.reduceSub,Nat.reduceAdd,-eq_self,be,g]
 refine az ?_
 constructor<;>intro c0
 refine az ?_
 constructor<;>intro c1
 constructor<;>intro c2
 ·(rw[gF];unfold yP dC nG;simp_all [opI])
 refine az ?_
 ·(rw[gF];unfold yP dC nG;simp_all [opI])
 refine az ?_
 ·(rw[gF];unfold yP dC nG;simp_all [opI])
 refine az ?_
 ·(rw[gF];unfold yP dC nG;simp_all [opI])
def c_qcut:Cd:=⟨100,[.agg kKn,.one (.int .i8)],[.agg kKn],rd_Kn fun a=>rdZ fun l _=>d_Kn (kcut a l) [],T0⟩
def ace:Tr:=
(.call 0 [.bool] (.vs 0 2 .nil) 3
(.br (.bw 3)
(.call 2 [.int .u64] (.cons (.var 0) (.cons (.var 2) .nil)) 4
(.call 2 [.int .u64] (.vs 1 2 .nil) 5
(.leaf (.vs 4 2 .nil))))
(.call 1 (kKn) .nil 4
(.leaf (.vs 4 2 .nil)))))
theorem xG:c_qcut.Ok Tryz.prog:=
 oks ace (v_Kn [.int .i8]) dm (olc xF<|olc nM<|olc anC ol0) Tryz.func100<|bF fun a ha=>fun l hl hp U g=>by
 simp only[q_Kn,gS1,Nat.reduceAdd] at g
 simp only[ace,spQ,c_qmay,c_qall,c_rcut,rdZ,rdB,rdL,c_qcut,q_Kn,simQ,ab,S1,Nat.reduceSub,Nat.reduceAdd,-eq_self,be,g]
 refine az ?_
 constructor<;>intro c0
 refine az ?_
 refine az ?_
 ·(unfold kcut;simp_all)
 refine az ?_
 ·(unfold kcut;simp_all)
def c_qadd:Cd:=⟨212,[.agg kKn,.agg kKn],[.agg kKn],rd_Kn fun a=>rd_Kn fun b _=>d_Kn (kadd a b) [],T0⟩
def ai6:E:=(.bin .or .u64 (.bin .or .u64 (.bin .xor .u64 (.bin .add .u64 (.bin .add .u64 (.var 1) (.var 3)) (.bin .add .u64 (.var 0) (.var 2))) (.bin .add .u64 (.var 0) (.var 2))) (.var 1)) (.var 3))
def acg:Tr:=
(.leaf (.cons (.bin .andNot .u64 (.bin .add .u64 (.var 0) (.var 2)) ai6) (.cons ai6 .nil)))
theorem anF:c_qadd.Ok Tryz.prog:=
 oks acg (v_Kn (v_Kn [])) dm ol0 Tryz.func212<|bF fun a ha=>bF fun b hb hp U g=>by
 simp only[q_Kn,gS1,Nat.reduceAdd] at g
 simp only[acg,ai6,spQ,rdZ,rdB,rdL,c_qadd,q_Kn,simQ,ab,S1,Nat.reduceSub,Nat.reduceAdd,-eq_self,iR,g]
 ·(rw[<-ak0];rfl)
def c_qsub:Cd:=⟨213,[.agg kKn,.agg kKn],[.agg kKn],rd_Kn fun a=>rd_Kn fun b _=>d_Kn (ksub a b) [],T0⟩
def ai5:E:=(.bin .or .u64 (.bin .or .u64 (.bin .xor .u64 (.bin .add .u64 (.bin .sub .u64 (.var 0) (.var 2)) (.var 1)) (.bin .sub .u64 (.bin .sub .u64 (.var 0) (.var 2)) (.var 3))) (.var 1)) (.var 3))
def ab9:Tr:=
(.leaf (.cons (.bin .andNot .u64 (.bin .sub .u64 (.var 0) (.var 2)) ai5) (.cons ai5 .nil)))
theorem anD:c_qsub.Ok Tryz.prog:=
 oks ab9 (v_Kn (v_Kn [])) dm ol0 Tryz.func213<|bF fun a ha=>bF fun b hb hp U g=>by
 simp only[q_Kn,gS1,Nat.reduceAdd] at g
 simp only[ab9,ai5,spQ,rdZ,rdB,rdL,c_qsub,q_Kn,simQ,ab,S1,Nat.reduceSub,Nat.reduceAdd,-eq_self,iR,g]
 ·rfl
def c_qshift:Cd:=⟨214,[.one (.int .i8),.one (.int .i8),.agg kKn,.agg kKn],[.agg kKn,.one .bool],rdZ fun op=>rdZ fun l=>rd_Kn fun a=>rd_Kn fun b _=>d_Kn (kshv op l a b) [.z (b2i (sZ l b))],T0⟩
def ai4:E:=(.cons (.bin .and .u64 (.var 4) (.bin .sub .u64 (.conv .u64 (.var 1)) (.lit 1))) .nil)
def su:Tr:=
(.br (.eq (.bin .and .u64 (.var 5) (.bin .sub .u64 (.conv .u64 (.var 1)) (.lit 1))) (.lit 0))
(.call 0 [.int .u64,.int .i64] (.vs 0 3 ai4) 6
(.call 0 [.int .u64,.int .i64] (.vs 0 2 (.cons (.var 3) ai4)) 8
(.leaf (.cons (.bin .andNot .u64 (.var 6) (.var 8)) (.cons (.var 8) (.consb (.tt true) .nil))))))
(.leaf (.cons (.lit 0) (.cons (.lit 0) (.consb (.tt false) .nil)))))
theorem agC:c_qshift.Ok Tryz.prog:=
 oks su (.int .i8::.int .i8::v_Kn (v_Kn [])) dm (olc adU ol0) Tryz.func214<|fun op hop l hl=>bF fun a ha=>bF fun b hb hp U g=>by
 simp only[q_Kn,gS1,Nat.reduceAdd] at g
 simp only[su,ai4,spQ,c_rbits,rdZ,rdB,rdL,c_qshift,q_Kn,simQ,ab,S1,Nat.reduceSub,Nat.reduceAdd,-eq_self,be,g]
 constructor<;>intro c0
 refine az ?_
 refine az ?_
 ·(have q:sZ l b=true:=c0;rw[q];unfold kshv;rw[q];rfl)
 ·(have q:sZ l b=false:=c0;rw[q];unfold kshv;rw[q];rfl)
def c_qcom:Cd:=⟨217,[.one (.int .u64),.one (.int .u64)],[.agg kKn],rdZ fun x=>rdZ fun y _=>d_Kn (gG x y) [],T0⟩
def uA:Tr:=
(.br (.lt (.var 1) (.var 0))
(.call 0 (kKn) .nil 2
(.leaf (.vs 2 2 .nil)))
(.loop 0 2 [.int .u64] (.cons (.lit 0) .nil)
(.br (.eq (.bin .andNot .u64 (.bin .xor .u64 (.var 0) (.var 1)) (.var 2)) (.lit 0))
(.leaf (.cons (.bin .andNot .u64 (.var 0) (.var 2)) (.cons (.var 2) .nil)))
(.next 0 (.cons (.bin .or .u64 (.bin .shl .u64 (.var 2) (.lit 1)) (.lit 1)) .nil)))))
theorem akM:bp uc (smN 0 [c_qall]) [] [(4,[.tmpI 5 .u64]++tps [(10,9)])] [] 200 Tryz.f217 c_qcom.a c_qcom.r (tp c_qcom.r) [.int .u64,.int .u64] uA:=trI (by kernel_rfl)
theorem anE:c_qcom.Ok Tryz.prog:=
 okc uA [.int .u64,.int .u64] dm (olc nM ol0) Tryz.func217 fn0 akM<|fun x hx y hy hp U g=>by
 have keepg:=g
 simp only[q_Kn,gS1,Nat.reduceAdd] at g
 simp only[uA,spQ,c_qall,rdZ,rdB,rdL,c_qcom,q_Kn,simQ,ab,S1,Nat.reduceSub,Nat.reduceAdd,-eq_self,be,g]
 constructor<;>intro c0
 refine az ?_
 ·exact aJ (by unfold gG;rw[if_pos (thm3 c0)])
 refine⟨fun ds=>∃n:Nat,ds=[.z (2 ^ n-1)]/\n<=64/\kcn x y=ol x y (64-n) n,fun ds=>(18446744073709551616-dI ds 0).toNat,⟨0,rfl,by omega,rfl⟩,?_⟩
 intro U' ag ok hi
 obtain⟨n,hd,hn,hk⟩:=hi
 simp only[thm5,Dt.z.injEq,and_true] at hd
 have hdf:=agW x y n hn (bB hx).1 (bB hx).2 (bB hy).1 (bB hy).2
 simp only[hd,<-(ag 0 (by decide)).1,<-(ag 1 (by decide)).1,g,dI,ce,-eq_self]
 clear ok ag
 constructor<;>intro c1
 ·(refine aJ (r:=jb x (2 ^ n-1)) ?_;unfold gG;rw[if_neg (thm2 c0),ag0 hn hk (hdf.1 (eqz c1))])
 ·have he:¬x / 2 ^ n=y / 2 ^ n:=fun h=>nez c1 (hdf.2 h)
  have bx:=bB hx
  have by_:=bB hy
  have hlt:n<64:=Nat.lt_of_le_of_ne hn (fun h=>he (by subst h;omega))
  have hs:opI .or .u64 (opI .shl .u64 (2 ^ n-1) 1) 1=2 ^ (n+1)-1:=adw n hlt
  rw[hs]
  refine⟨⟨n+1,rfl,by omega,zn hlt hk he⟩,?_⟩
  have h6:=ada hn
  have h7:=ada (n:=n+1) (by omega)
  have h8:(2:Int) ^ (n+1)=2 ^ n*2:=Int.pow_succ 2 n
  rw[h8] at h7 ⊢
  generalize (2:Int) ^ n=p at *
  omega
def c_qdo:Cd:=⟨162,[.one (.int .i8),.one (.int .i8),.agg kKn,.agg kKn],[.agg kKn],rdZ fun op=>rdZ fun l=>rd_Kn fun a=>rd_Kn fun b _=>d_Kn (kdo op l a b) [],T0⟩
def ai2:Tr:=(.call 2 (kKn) (.vs 13 2 (.cons (.var 1) .nil)) 15
(.leaf (.vs 15 2 .nil)))
def ae3:Tr:=(.call 7 (kKn++[.bool]) (.vs 0 2 (.vs 7 4 .nil)) 13
(.br (.bw 15)
(.call 2 (kKn) (.vs 13 2 (.cons (.var 1) .nil)) 16
(.leaf (.vs 16 2 .nil)))
(.call 2 (kKn) (.vs 11 2 (.cons (.var 1) .nil)) 16
(.leaf (.vs 16 2 .nil)))))
def ai3:Tr:=(.call 1 (kKn) .nil 11
(.br (.eq (.var 0) (.lit 11))
(.call 2 (kKn) (.vs 9 2 (.cons (.var 1) .nil)) 13
(.leaf (.vs 13 2 .nil)))
(.br (.eq (.var 0) (.lit 5))
(.call 2 (kKn) (.cons (.bin .and .u64 (.var 7) (.var 9)) (.cons (.bin .andNot .u64 (.bin .and .u64 (.bin .or .u64 (.var 7) (.var 8)) (.bin .or .u64 (.var 9) (.var 10))) (.bin .and .u64 (.var 7) (.var 9))) (.cons (.var 1) .nil))) 13
(.leaf (.vs 13 2 .nil)))
(.br (.eq (.var 0) (.lit 4))
(.call 2 (kKn) (.cons (.bin .or .u64 (.var 7) (.var 9)) (.cons (.bin .andNot .u64 (.bin .or .u64 (.var 8) (.var 10)) (.bin .or .u64 (.var 7) (.var 9))) (.cons (.var 1) .nil))) 13
(.leaf (.vs 13 2 .nil)))
(.br (.eq (.var 0) (.lit 10))
(.call 2 (kKn) (.cons (.bin .andNot .u64 (.bin .xor .u64 (.var 7) (.var 9)) (.bin .or .u64 (.var 8) (.var 10))) (.cons (.bin .or .u64 (.var 8) (.var 10)) (.cons (.var 1) .nil))) 13
(.leaf (.vs 13 2 .nil)))
(.br (.eq (.var 0) (.lit 0))
(.call 5 (kKn) (.vs 7 4 .nil) 13
 ai2)
(.br (.eq (.var 0) (.lit 1))
(.call 6 (kKn) (.vs 7 4 .nil) 13
 ai2)
(.br (.eq (.var 0) (.lit 8))
(.call 4 (kKn) (.cons (.lit 0) .nil) 13
(.call 6 (kKn) (.vs 13 2 (.vs 7 2 .nil)) 15
(.call 2 (kKn) (.vs 15 2 (.cons (.var 1) .nil)) 17
(.leaf (.vs 17 2 .nil)))))
(.br (.eq (.var 0) (.lit 6))
 ae3
(.br (.eq (.var 0) (.lit 7))
 ae3
(.br (.eq (.var 0) (.lit 12))
 ae3
(.call 2 (kKn) (.vs 11 2 (.cons (.var 1) .nil)) 13
(.leaf (.vs 13 2 .nil))))))))))))))
def acd:Tr:=
(.cut 0 6 [.bool]
(.call 0 [.bool] (.vs 2 2 .nil) 6
(.br (.bw 6)
(.call 0 [.bool] (.vs 4 2 .nil) 7
(.br (.bw 7)
(.br (.lt (.var 0) (.lit 0))
(.next 0 (.consb (.tt true) .nil))
(.br (.lt (.lit 12) (.var 0))
(.next 0 (.consb (.tt true) .nil))
(.br (.eq (.var 1) (.lit 32))
(.next 0 (.consb (.tt false) .nil))
(.next 0 (.consb (.not (.eq (.var 1) (.lit 64))) .nil)))))
(.next 0 (.consb (.tt true) .nil))))
(.next 0 (.consb (.tt true) .nil))))
(.br (.bw 6)
(.call 1 (kKn) .nil 7
(.leaf (.vs 7 2 .nil)))
(.call 2 (kKn) (.vs 2 2 (.cons (.var 1) .nil)) 7
(.call 2 (kKn) (.vs 4 2 (.cons (.var 1) .nil)) 9
(.br (.eq (.var 8) (.lit 0))
(.br (.eq (.var 10) (.lit 0))
(.call 3 [.int .u64,.int .i64] (.vs 0 2 (.cons (.var 7) (.cons (.var 9) .nil))) 11
(.call 4 (kKn) (.cons (.var 11) .nil) 13
(.leaf (.vs 13 2 .nil))))
 ai3)
 ai3)))))
theorem amH:bp uc (smN 0 [c_qmay,c_qall,c_qcut,c_rbits,c_qone,c_qadd,c_qsub,c_qshift]) [] [] [(2,[.tmpB 37]++tps [(14,23)])] 200 Tryz.f162 c_qdo.a c_qdo.r (tp c_qdo.r) (.int .i8::.int .i8::v_Kn (v_Kn [])) acd:=trI (by kernel_rfl)
theorem apj:c_qdo.Ok Tryz.prog:=
 okc acd (.int .i8::.int .i8::v_Kn (v_Kn [])) dm (olc xF<|olc nM<|olc xG<|olc adU<|olc aih<|olc anF<|olc anD<|olc agC ol0) Tryz.func162 fn0 amH<|fun op hop l hl=>bF fun a ha=>bF fun b hb hp U g=>by
 have keepg:=g
 simp only[q_Kn,gS1,Nat.reduceAdd] at g
 simp only[acd,ai3,ae3,ai2,spQ,c_qmay,c_qall,c_qcut,c_rbits,c_qone,c_qadd,c_qsub,c_qshift,rdZ,rdB,rdL,c_qdo,q_Kn,simQ,ab,S1,Nat.reduceSub,Nat.reduceAdd,-eq_self,be,g]
 refine⟨fun ds=>ds=[.z (b2i (!cE op l a b))],?_,?_⟩
 refine az ?_
 constructor<;>intro c0
 refine az ?_
 constructor<;>intro c1
 constructor<;>intro c2
 ·show[Dt.z (b2i true)]=[Dt.z (b2i (!cE op l a b))];rw[anf c2];rfl
 constructor<;>intro c3
 ·show[Dt.z (b2i true)]=[Dt.z (b2i (!cE op l a b))];rw[ang c3];rfl
 constructor<;>intro c4
 ·show[Dt.z (b2i false)]=[Dt.z (b2i (!cE op l a b))];rw[(agu c0 c1 c2 c3 (by rw[eqz c4];rfl)).1];rfl
 ·show[Dt.z (b2i (!(l==64)))]=[Dt.z (b2i (!cE op l a b))];cases h:(l==64);rw[kd_w c4 h];rw[(agu c0 c1 c2 c3 (by rw[eqz h];rfl)).1]
 ·show[Dt.z (b2i true)]=[Dt.z (b2i (!cE op l a b))];rw[kd_b c1];rfl
 ·show[Dt.z (b2i true)]=[Dt.z (b2i (!cE op l a b))];rw[kd_a c0];rfl
 intro U1 ha1 _ hi1
 have g6:U1.b 6 = !cE op l a b:=jM (Dt.z.inj (List.cons.inj hi1).1)
 have keep1:=And.intro ((ha1 0 (by decide)).1.symm.trans g.1) (And.intro ((ha1 1 (by decide)).1.symm.trans g.2.1) (And.intro ((ha1 2 (by decide)).1.symm.trans g.2.2.1) (And.intro ((ha1 3 (by decide)).1.symm.trans g.2.2.2.1) (And.intro ((ha1 4 (by decide)).1.symm.trans g.2.2.2.2.1) ((ha1 5 (by decide)).1.symm.trans g.2.2.2.2.2)))))
 simp only[keep1,g6,Kn.eta,-eq_self]
 constructor<;>intro c5
 refine az ?_
 ·exact aJ (ah5 (by simpa using c5))
 obtain⟨hg,ho,hl⟩:=ane c5
 have wa:=Kn.wf_of ha
 have wb:=Kn.wf_of hb
 refine az ?_
 refine az ?_
 constructor<;>intro c6
 constructor<;>intro c7
 refine az ?_
 refine az ?_
 ·exact aJ (alz hg wa wb c6 c7)
 refine az ?_
 constructor<;>intro c8
 refine az ?_
 ·(obtain rfl:=eqz c8;exact aJ (bZ hg wa wb (.inr c7) rfl))
 constructor<;>intro c9
 refine az ?_
 ·(obtain rfl:=eqz c9;exact aJ (bZ hg wa wb (.inr c7) rfl))
 constructor<;>intro c10
 refine az ?_
 ·(obtain rfl:=eqz c10;exact aJ (bZ hg wa wb (.inr c7) rfl))
 constructor<;>intro c11
 refine az ?_
 ·(obtain rfl:=eqz c11;exact aJ (bZ hg wa wb (.inr c7) rfl))
 constructor<;>intro c12
 refine az ?_
 refine az ?_
 ·(obtain rfl:=eqz c12;exact aJ (bZ hg wa wb (.inr c7) rfl))
 constructor<;>intro c13
 refine az ?_
 refine az ?_
 ·(obtain rfl:=eqz c13;exact aJ (bZ hg wa wb (.inr c7) rfl))
 constructor<;>intro c14
 refine az ?_
 refine az ?_
 refine az ?_
 ·(obtain rfl:=eqz c14;exact aJ (bZ hg wa wb (.inr c7) rfl))
 constructor<;>intro c15
 refine az ?_
 constructor<;>intro c16
 refine az ?_
 ·(obtain rfl:=eqz c15;exact aJ (bZ hg wa wb (.inr c7) (o6 (by decide) hl hg.2 c16)))
 refine az ?_
 ·(obtain rfl:=eqz c15;exact aJ (bZ hg wa wb (.inr c7) (lk (by decide) hl c16)))
 constructor<;>intro c17
 refine az ?_
 constructor<;>intro c18
 refine az ?_
 ·(obtain rfl:=eqz c17;exact aJ (bZ hg wa wb (.inr c7) (o6 (by decide) hl hg.2 c18)))
 refine az ?_
 ·(obtain rfl:=eqz c17;exact aJ (bZ hg wa wb (.inr c7) (lk (by decide) hl c18)))
 constructor<;>intro c19
 refine az ?_
 constructor<;>intro c20
 refine az ?_
 ·(obtain rfl:=eqz c19;exact aJ (bZ hg wa wb (.inr c7) (o6 (by decide) hl hg.2 c20)))
 refine az ?_
 ·(obtain rfl:=eqz c19;exact aJ (bZ hg wa wb (.inr c7) (lk (by decide) hl c20)))
 refine az ?_
 ·(have e8:=nez c8;have e9:=nez c9;have e10:=nez c10;have e11:=nez c11;have e12:=nez c12;have e13:=nez c13;have e14:=nez c14;have e15:=nez c15;have e17:=nez c17;have e19:=nez c19;have h:op=2\/op=3\/op=9:=(by omega);refine aJ (bZ hg wa wb (.inr c7) ?_);rcases h with rfl | rfl | rfl<;>rfl)
 refine az ?_
 constructor<;>intro c21
 refine az ?_
 ·(obtain rfl:=eqz c21;exact aJ (bZ hg wa wb (.inl c6) rfl))
 constructor<;>intro c22
 refine az ?_
 ·(obtain rfl:=eqz c22;exact aJ (bZ hg wa wb (.inl c6) rfl))
 constructor<;>intro c23
 refine az ?_
 ·(obtain rfl:=eqz c23;exact aJ (bZ hg wa wb (.inl c6) rfl))
 constructor<;>intro c24
 refine az ?_
 ·(obtain rfl:=eqz c24;exact aJ (bZ hg wa wb (.inl c6) rfl))
 constructor<;>intro c25
 refine az ?_
 refine az ?_
 ·(obtain rfl:=eqz c25;exact aJ (bZ hg wa wb (.inl c6) rfl))
 constructor<;>intro c26
 refine az ?_
 refine az ?_
 ·(obtain rfl:=eqz c26;exact aJ (bZ hg wa wb (.inl c6) rfl))
 constructor<;>intro c27
 refine az ?_
 refine az ?_
 refine az ?_
 ·(obtain rfl:=eqz c27;exact aJ (bZ hg wa wb (.inl c6) rfl))
 constructor<;>intro c28
 refine az ?_
 constructor<;>intro c29
 refine az ?_
 ·(obtain rfl:=eqz c28;exact aJ (bZ hg wa wb (.inl c6) (o6 (by decide) hl hg.2 c29)))
 refine az ?_
 ·(obtain rfl:=eqz c28;exact aJ (bZ hg wa wb (.inl c6) (lk (by decide) hl c29)))
 constructor<;>intro c30
 refine az ?_
 constructor<;>intro c31
 refine az ?_
 ·(obtain rfl:=eqz c30;exact aJ (bZ hg wa wb (.inl c6) (o6 (by decide) hl hg.2 c31)))
 refine az ?_
 ·(obtain rfl:=eqz c30;exact aJ (bZ hg wa wb (.inl c6) (lk (by decide) hl c31)))
 constructor<;>intro c32
 refine az ?_
 constructor<;>intro c33
 refine az ?_
 ·(obtain rfl:=eqz c32;exact aJ (bZ hg wa wb (.inl c6) (o6 (by decide) hl hg.2 c33)))
 refine az ?_
 ·(obtain rfl:=eqz c32;exact aJ (bZ hg wa wb (.inl c6) (lk (by decide) hl c33)))
 refine az ?_
 ·(have e21:=nez c21;have e22:=nez c22;have e23:=nez c23;have e24:=nez c24;have e25:=nez c25;have e26:=nez c26;have e27:=nez c27;have e28:=nez c28;have e30:=nez c30;have e32:=nez c32;have h:op=2\/op=3\/op=9:=(by omega);refine aJ (bZ hg wa wb (.inl c6) ?_);rcases h with rfl | rfl | rfl<;>rfl)
end Go.Proofs.YtfkhblmeioiciaaGreatDoor
