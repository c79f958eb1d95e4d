import Derived.Test.YtfkhblmeioiciaaGreatDoorSdA
import Derived.Test.YtfkhblmeioiciaaGreatDoorKnQ
import Derived.Test.YtfkhblmeioiciaaGreatDoorSyZe
import Derived.Test.YtfkhblmeioiciaaGreatDoorVrL
set_option maxRecDepth 100000
set_option maxHeartbeats 8000000
set_option linter.unusedVariables false
set_option linter.unusedSimpArgs false
namespace Go.Proofs.YtfkhblmeioiciaaGreatDoor
open Go Go.RowKit
def sbit (set i:Int):Bool:=opI .and .i64 (opI .shr .i64 set i) 1==1
structure Snap where
 r0:Int
 r1:Int
 r2:Int
 r3:Int
 r4:Int
 r5:Int
 r6:Int
 r7:Int
 r8:Int
 r9:Int
 r10:Int
 set:Int
 f0:Int
 f1:Int
 f2:Int
 f3:Int
 f4:Int
 f5:Int
 f6:Int
 f7:Int
 f8:Int
 f9:Int
 f10:Int
 f11:Int
 f12:Int
 f13:Int
 f14:Int
 f15:Int
 f16:Int
 f17:Int
 f18:Int
 f19:Int
 f20:Int
 f21:Int
 f22:Int
 f23:Int
 f24:Int
 f25:Int
 f26:Int
 f27:Int
 f28:Int
 f29:Int
 f30:Int
 f31:Int
 f32:Int
 f33:Int
 f34:Int
 f35:Int
 f36:Int
 f37:Int
 f38:Int
 f39:Int
 f40:Int
 f41:Int
 f42:Int
 f43:Int
 f44:Int
 f45:Int
 f46:Int
 f47:Int
 f48:Int
 f49:Int
 f50:Int
 f51:Int
 f52:Int
 f53:Int
 f54:Int
 f55:Int
 f56:Int
 f57:Int
 f58:Int
 f59:Int
 f60:Int
 f61:Int
 f62:Int
 f63:Int
def rok (set i:Int) (t:Ty) (v:Int):Bool:=(t.k==0||sbit set i)&&aqg t v
def smac (s:Sta) (lo hi size:Int):Bool:=(size==1||(size==2||(size==4||size==8)))&&(decide (0<=lo)&&(decide (lo<=hi)&&(decide (hi<=opI .sub .i64 64 size)&&smay s)))
def sone (lo hi size:Int):Bool:=(size==8)&&((lo==hi)&&(opI .rem .i64 lo 8==0))
def anV (s:Sta) (n:Int):Ty:=if n=0 then s.s0 else if n=1 then s.s1 else if n=2 then s.s2 else if n=3 then s.s3 else if n=4 then s.s4 else if n=5 then s.s5 else if n=6 then s.s6 else s.s7
def qj (s:Sta) (lo hi size:Int):Ty:=if smac s lo hi size=true then(if sone lo hi size=true then anV s (opI .quo .i64 lo 8) else ty 1 (vbyt size) 0 0) else tnil
def qk (s:Sta) (lo hi size:Int):Int:=if smac s lo hi size=true then 0 else 2
def sput (s:Sta) (p:Int->Bool) (t:Ty):Sta:={s with s0:=if p 0=true then t else s.s0,s1:=if p 1=true then t else s.s1,s2:=if p 2=true then t else s.s2,s3:=if p 3=true then t else s.s3,s4:=if p 4=true then t else s.s4,s5:=if p 5=true then t else s.s5,s6:=if p 6=true then t else s.s6,s7:=if p 7=true then t else s.s7}
def jb (s:Sta) (lo hi size:Int) (t:Ty):Sta:=
 if smac s lo hi size=true/\tset t=true then(if sone lo hi size=true then sput s (fun k=>k==opI .quo .i64 lo 8) t else sput s (fun k=>decide (lo<8*k+8)&&decide (8*k<hi+size)) fJ) else snil
def pY (s:Sta) (lo hi size:Int) (t:Ty):Int:=if smac s lo hi size=true/\tset t=true then 0 else 2
theorem qi {s:Sta} {lo hi size:Int} (h:smac s lo hi size=true):smay s=true/\0<=lo/\lo<=hi/\hi+size<=64/\(size=1\/size=2\/size=4\/size=8):=by
 unfold smac at h
 simp only[thm0,Bool.or_eq_true,cN,bm] at h
 obtain⟨h1,h2,h3,h4,h5⟩:=h
 have e:opI .sub .i64 64 size=64-size:=by show IntKind.i64.wrap (64-size)=_; rw[aU]; omega
 rw[e] at h4
 exact⟨h5,h2,h3,by omega,by omega⟩
theorem quo8 {i:Int} (h0:0<=i) (h1:i<=64):opI .quo .i64 i 8=i / 8:=by
 show IntKind.i64.wrap (i.tdiv 8)=_
 rw[Int.tdiv_eq_ediv_of_nonneg h0,aU]; omega
theorem oP {s:Sta} {lo hi size:Int} (h:smac s lo hi size=true):opI .quo .i64 (opI .sub .i64 (opI .add .i64 hi size) 1) 8=(hi+size-1) / 8/\opI .add .i64 hi size=hi+size:=by
 obtain⟨-,h1,h2,h3,h4⟩:=qi h
 have e1:opI .add .i64 hi size=hi+size:=by show IntKind.i64.wrap (hi+size)=_; rw[aU]; omega
 have e2:opI .sub .i64 (hi+size) 1=hi+size-1:=by show IntKind.i64.wrap (hi+size-1)=_; rw[aU]; omega
 rw[e1,e2]
 exact⟨quo8 (by omega) (by omega),rfl⟩
theorem ym {s:Sta} {lo hi size:Int} (h:smac s lo hi size=false):qj s lo hi size=tnil/\qk s lo hi size=2:=by unfold qj qk; rw[h]; exact⟨rfl,rfl⟩
theorem o3 {s:Sta} {lo hi size:Int} (h:smac s lo hi size=true) (h1:sone lo hi size=false):qj s lo hi size=ty 1 (vbyt size) 0 0/\qk s lo hi size=0:=by unfold qj qk; rw[h,h1]; exact⟨rfl,rfl⟩
theorem bi {s:Sta} {lo hi size:Int} (h:smac s lo hi size=true) (h1:sone lo hi size=true):qj s lo hi size=anV s (opI .quo .i64 lo 8)/\qk s lo hi size=0:=by unfold qj qk; rw[h,h1]; exact⟨rfl,rfl⟩
theorem akJ {s:Sta} {lo hi size:Int} (h:smac s lo hi size=true):opI .quo .i64 lo 8=lo / 8/\0<=lo / 8/\lo / 8<=7:=by
 obtain⟨-,h1,h2,h3,h4⟩:=qi h
 exact⟨quo8 (by omega) (by omega),by omega,by omega⟩
theorem afq {s:Sta} {lo hi size:Int} {n:Int} (h:smac s lo hi size=true) (hn:n=opI .quo .i64 lo 8) (h0:(n==0)=false) (h1:(n==1)=false) (h2:(n==2)=false) (h3:(n==3)=false) (h4:(n==4)=false) (h5:(n==5)=false) (h6:(n==6)=false) (h7:(n==7)=false):False:=by
 obtain⟨e,a,b⟩:=akJ h
 rw[e] at hn
 simp only[beq_eq_false_iff_ne] at h0 h1 h2 h3 h4 h5 h6 h7
 omega
theorem qf {s:Sta} {lo hi size:Int} (h:decide (lo<0)=true):smac s lo hi size=false:=by
 have:=thm3 h
 unfold smac; rw[show decide (0<=lo)=false from gT (by omega)]; simp only[Bool.false_and,Bool.and_false]
theorem qh {s:Sta} {lo hi size:Int} (h:decide (hi<lo)=true):smac s lo hi size=false:=by
 have:=thm3 h
 unfold smac; rw[show decide (lo<=hi)=false from gT (by omega)]; simp only[Bool.false_and,Bool.and_false]
theorem lI {s:Sta} {lo hi size:Int} (h:decide (opI .sub .i64 64 size<hi)=true):smac s lo hi size=false:=by
 have:=thm3 h
 unfold smac; rw[show decide (hi<=opI .sub .i64 64 size)=false from gT (by omega)]; simp only[Bool.false_and,Bool.and_false]
theorem ac4 {s:Sta} {lo hi size:Int} (h1:(size==1)=false) (h2:(size==2)=false) (h3:(size==4)=false) (h4:(size==8)=false):smac s lo hi size=false:=by
 unfold smac; rw[h1,h2,h3,h4]; rfl
theorem qg {s:Sta} {lo hi size:Int} (hz:(size==1)=true\/(size==2)=true\/(size==4)=true\/(size==8)=true) (h1:decide (lo<0)=false) (h2:decide (hi<lo)=false):smac s lo hi size=(!decide (opI .sub .i64 64 size<hi)&&smay s):=by
 have:=thm2 h1
 have:=thm2 h2
 unfold smac
 rw[show(size==1||(size==2||(size==4||size==8)))=true from by rcases hz with h | h | h | h<;>simp[h],show decide (0<=lo)=true from fE (by omega),show decide (lo<=hi)=true from fE (by omega),show decide (hi<=opI .sub .i64 64 size) = !decide (opI .sub .i64 64 size<hi) from by rw[aP]; simp]
 rfl
theorem akI {lo hi size:Int} (h1:(size==8)=false):sone lo hi size=false:=by unfold sone; rw[h1]; rfl
theorem akH {lo hi size:Int} (h2:(lo==hi)=false):sone lo hi size=false:=by unfold sone; rw[h2,Bool.false_and,Bool.and_false]
theorem oZ {s:Sta} {p q:Int->Bool} {t:Ty} (h:∀k:Int,0<=k->k<=7->p k=q k):sput s p t=sput s q t:=by
 unfold sput
 rw[h 0 (by omega) (by omega),h 1 (by omega) (by omega),h 2 (by omega) (by omega),h 3 (by omega) (by omega),h 4 (by omega) (by omega),h 5 (by omega) (by omega),h 6 (by omega) (by omega),h 7 (by omega) (by omega)]
theorem acP {s:Sta} {p:Int->Bool} {t:Ty} (h:∀k:Int,0<=k->k<=7->p k=false):sput s p t=s:=by
 rw[oZ (q:=fun _=>false) h]; rfl
def anW (s:Sta):List Dt:=[.z s.s0.k,.z s.s0.ul,.z s.s0.uh,.z s.s0.sl,.z s.s0.sh,.z s.s0.v,.z s.s0.m,.z s.s0.lo,.z s.s0.hi,.z s.s1.k,.z s.s1.ul,.z s.s1.uh,.z s.s1.sl,.z s.s1.sh,.z s.s1.v,.z s.s1.m,.z s.s1.lo,.z s.s1.hi,.z s.s2.k,.z s.s2.ul,.z s.s2.uh,.z s.s2.sl,.z s.s2.sh,.z s.s2.v,.z s.s2.m,.z s.s2.lo,.z s.s2.hi,.z s.s3.k,.z s.s3.ul,.z s.s3.uh,.z s.s3.sl,.z s.s3.sh,.z s.s3.v,.z s.s3.m,.z s.s3.lo,.z s.s3.hi,.z s.s4.k,.z s.s4.ul,.z s.s4.uh,.z s.s4.sl,.z s.s4.sh,.z s.s4.v,.z s.s4.m,.z s.s4.lo,.z s.s4.hi,.z s.s5.k,.z s.s5.ul,.z s.s5.uh,.z s.s5.sl,.z s.s5.sh,.z s.s5.v,.z s.s5.m,.z s.s5.lo,.z s.s5.hi,.z s.s6.k,.z s.s6.ul,.z s.s6.uh,.z s.s6.sl,.z s.s6.sh,.z s.s6.v,.z s.s6.m,.z s.s6.lo,.z s.s6.hi,.z s.s7.k,.z s.s7.ul,.z s.s7.uh,.z s.s7.sl,.z s.s7.sh,.z s.s7.v,.z s.s7.m,.z s.s7.lo,.z s.s7.hi]
def pbet (a b:Int) (k:Int):Bool:=decide (a<=k)&&decide (k<b)
theorem ag8 {s:Sta} {p q:Int->Bool} {t:Ty} (h:∀k:Int,0<=k->k<=7->q k=(p k||(k==0))):sput s q t={sput s p t with s0:=t}:=by
 unfold sput
 simp only[h 0 (by omega) (by omega),show q 1=p 1 from by rw[h 1 (by omega) (by omega)]; exact Bool.or_false _,show q 2=p 2 from by rw[h 2 (by omega) (by omega)]; exact Bool.or_false _,show q 3=p 3 from by rw[h 3 (by omega) (by omega)]; exact Bool.or_false _,show q 4=p 4 from by rw[h 4 (by omega) (by omega)]; exact Bool.or_false _,show q 5=p 5 from by rw[h 5 (by omega) (by omega)]; exact Bool.or_false _,show q 6=p 6 from by rw[h 6 (by omega) (by omega)]; exact Bool.or_false _,show q 7=p 7 from by rw[h 7 (by omega) (by omega)]; exact Bool.or_false _]
 simp
theorem ag7 {s:Sta} {p q:Int->Bool} {t:Ty} (h:∀k:Int,0<=k->k<=7->q k=(p k||(k==1))):sput s q t={sput s p t with s1:=t}:=by
 unfold sput
 simp only[h 1 (by omega) (by omega),show q 0=p 0 from by rw[h 0 (by omega) (by omega)]; exact Bool.or_false _,show q 2=p 2 from by rw[h 2 (by omega) (by omega)]; exact Bool.or_false _,show q 3=p 3 from by rw[h 3 (by omega) (by omega)]; exact Bool.or_false _,show q 4=p 4 from by rw[h 4 (by omega) (by omega)]; exact Bool.or_false _,show q 5=p 5 from by rw[h 5 (by omega) (by omega)]; exact Bool.or_false _,show q 6=p 6 from by rw[h 6 (by omega) (by omega)]; exact Bool.or_false _,show q 7=p 7 from by rw[h 7 (by omega) (by omega)]; exact Bool.or_false _]
 simp
theorem ag6 {s:Sta} {p q:Int->Bool} {t:Ty} (h:∀k:Int,0<=k->k<=7->q k=(p k||(k==2))):sput s q t={sput s p t with s2:=t}:=by
 unfold sput
 simp only[h 2 (by omega) (by omega),show q 0=p 0 from by rw[h 0 (by omega) (by omega)]; exact Bool.or_false _,show q 1=p 1 from by rw[h 1 (by omega) (by omega)]; exact Bool.or_false _,show q 3=p 3 from by rw[h 3 (by omega) (by omega)]; exact Bool.or_false _,show q 4=p 4 from by rw[h 4 (by omega) (by omega)]; exact Bool.or_false _,show q 5=p 5 from by rw[h 5 (by omega) (by omega)]; exact Bool.or_false _,show q 6=p 6 from by rw[h 6 (by omega) (by omega)]; exact Bool.or_false _,show q 7=p 7 from by rw[h 7 (by omega) (by omega)]; exact Bool.or_false _]
 simp
theorem ag5 {s:Sta} {p q:Int->Bool} {t:Ty} (h:∀k:Int,0<=k->k<=7->q k=(p k||(k==3))):sput s q t={sput s p t with s3:=t}:=by
 unfold sput
 simp only[h 3 (by omega) (by omega),show q 0=p 0 from by rw[h 0 (by omega) (by omega)]; exact Bool.or_false _,show q 1=p 1 from by rw[h 1 (by omega) (by omega)]; exact Bool.or_false _,show q 2=p 2 from by rw[h 2 (by omega) (by omega)]; exact Bool.or_false _,show q 4=p 4 from by rw[h 4 (by omega) (by omega)]; exact Bool.or_false _,show q 5=p 5 from by rw[h 5 (by omega) (by omega)]; exact Bool.or_false _,show q 6=p 6 from by rw[h 6 (by omega) (by omega)]; exact Bool.or_false _,show q 7=p 7 from by rw[h 7 (by omega) (by omega)]; exact Bool.or_false _]
 simp
theorem ag4 {s:Sta} {p q:Int->Bool} {t:Ty} (h:∀k:Int,0<=k->k<=7->q k=(p k||(k==4))):sput s q t={sput s p t with s4:=t}:=by
 unfold sput
 simp only[h 4 (by omega) (by omega),show q 0=p 0 from by rw[h 0 (by omega) (by omega)]; exact Bool.or_false _,show q 1=p 1 from by rw[h 1 (by omega) (by omega)]; exact Bool.or_false _,show q 2=p 2 from by rw[h 2 (by omega) (by omega)]; exact Bool.or_false _,show q 3=p 3 from by rw[h 3 (by omega) (by omega)]; exact Bool.or_false _,show q 5=p 5 from by rw[h 5 (by omega) (by omega)]; exact Bool.or_false _,show q 6=p 6 from by rw[h 6 (by omega) (by omega)]; exact Bool.or_false _,show q 7=p 7 from by rw[h 7 (by omega) (by omega)]; exact Bool.or_false _]
 simp
theorem ag3 {s:Sta} {p q:Int->Bool} {t:Ty} (h:∀k:Int,0<=k->k<=7->q k=(p k||(k==5))):sput s q t={sput s p t with s5:=t}:=by
 unfold sput
 simp only[h 5 (by omega) (by omega),show q 0=p 0 from by rw[h 0 (by omega) (by omega)]; exact Bool.or_false _,show q 1=p 1 from by rw[h 1 (by omega) (by omega)]; exact Bool.or_false _,show q 2=p 2 from by rw[h 2 (by omega) (by omega)]; exact Bool.or_false _,show q 3=p 3 from by rw[h 3 (by omega) (by omega)]; exact Bool.or_false _,show q 4=p 4 from by rw[h 4 (by omega) (by omega)]; exact Bool.or_false _,show q 6=p 6 from by rw[h 6 (by omega) (by omega)]; exact Bool.or_false _,show q 7=p 7 from by rw[h 7 (by omega) (by omega)]; exact Bool.or_false _]
 simp
theorem ag2 {s:Sta} {p q:Int->Bool} {t:Ty} (h:∀k:Int,0<=k->k<=7->q k=(p k||(k==6))):sput s q t={sput s p t with s6:=t}:=by
 unfold sput
 simp only[h 6 (by omega) (by omega),show q 0=p 0 from by rw[h 0 (by omega) (by omega)]; exact Bool.or_false _,show q 1=p 1 from by rw[h 1 (by omega) (by omega)]; exact Bool.or_false _,show q 2=p 2 from by rw[h 2 (by omega) (by omega)]; exact Bool.or_false _,show q 3=p 3 from by rw[h 3 (by omega) (by omega)]; exact Bool.or_false _,show q 4=p 4 from by rw[h 4 (by omega) (by omega)]; exact Bool.or_false _,show q 5=p 5 from by rw[h 5 (by omega) (by omega)]; exact Bool.or_false _,show q 7=p 7 from by rw[h 7 (by omega) (by omega)]; exact Bool.or_false _]
 simp
theorem ag0 {s:Sta} {p q:Int->Bool} {t:Ty} (h:∀k:Int,0<=k->k<=7->q k=(p k||(k==7))):sput s q t={sput s p t with s7:=t}:=by
 unfold sput
 simp only[h 7 (by omega) (by omega),show q 0=p 0 from by rw[h 0 (by omega) (by omega)]; exact Bool.or_false _,show q 1=p 1 from by rw[h 1 (by omega) (by omega)]; exact Bool.or_false _,show q 2=p 2 from by rw[h 2 (by omega) (by omega)]; exact Bool.or_false _,show q 3=p 3 from by rw[h 3 (by omega) (by omega)]; exact Bool.or_false _,show q 4=p 4 from by rw[h 4 (by omega) (by omega)]; exact Bool.or_false _,show q 5=p 5 from by rw[h 5 (by omega) (by omega)]; exact Bool.or_false _,show q 6=p 6 from by rw[h 6 (by omega) (by omega)]; exact Bool.or_false _]
 simp
theorem eB {s:Sta} {lo hi size:Int} {t:Ty} (h:smac s lo hi size=false\/tset t=false):jb s lo hi size t=snil/\pY s lo hi size t=2:=by
 have:¬(smac s lo hi size=true/\tset t=true):=by rcases h with h | h<;>simp[h]
 exact⟨by unfold jb; rw[if_neg this],by unfold pY; rw[if_neg this]⟩
theorem aT {s:Sta} {lo hi size:Int} {t:Ty} (h:smac s lo hi size=true) (ht:tset t=true) (h1:sone lo hi size=true):jb s lo hi size t=sput s (fun k=>k==opI .quo .i64 lo 8) t/\pY s lo hi size t=0:=by
 exact⟨by unfold jb; rw[if_pos ⟨h,ht⟩,if_pos h1],by unfold pY; rw[if_pos ⟨h,ht⟩]⟩
theorem mq {s:Sta} {lo hi size:Int} {t:Ty} (h:smac s lo hi size=true) (ht:tset t=true) (h1:sone lo hi size=false):jb s lo hi size t=sput s (fun k=>decide (lo<8*k+8)&&decide (8*k<hi+size)) fJ/\pY s lo hi size t=0:=by
 exact⟨by unfold jb; rw[if_pos ⟨h,ht⟩,if_neg (by rw[h1]; simp)],by unfold pY; rw[if_pos ⟨h,ht⟩]⟩
theorem aju {t:Ty} (h:(t.k==0)=true):tset t=false:=by unfold tset; rw[h,Bool.not_true,Bool.and_false]
theorem ajt {t:Ty} (h:tok t=false):tset t=false:=by unfold tset; rw[h,Bool.false_and]
theorem cL {t:Ty} (h:(t.k==0)=false) (h2:tok t=true):tset t=true:=by unfold tset; rw[h,h2]; rfl
theorem ano {s:Sta} {lo hi size n:Int} (h:smac s lo hi size=true) (h1:n<=(hi+size-1) / 8+1) (h2:(hi+size-1) / 8<n):sput s (pbet (lo / 8) n) fJ=sput s (fun k=>decide (lo<8*k+8)&&decide (8*k<hi+size)) fJ:=by
 obtain⟨-,g1,g2,g3,g4⟩:=qi h
 refine oZ fun k k0 k1=> ?_
 unfold pbet
 rw[aP]
 simp only[thm0,bm]
 omega
theorem eg {a n k:Int} (hn:a<=n):pbet a (n+1) k=(pbet a n k||(k==n)):=by
 unfold pbet
 rw[aP]
 simp only[thm0,Bool.or_eq_true,bm,cN]
 omega
end Go.Proofs.YtfkhblmeioiciaaGreatDoor
