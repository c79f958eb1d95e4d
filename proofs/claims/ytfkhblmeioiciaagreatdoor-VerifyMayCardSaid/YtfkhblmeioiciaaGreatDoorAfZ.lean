import Derived.Test.YtfkhblmeioiciaaGreatDoorAeZ
import Derived.Test.YtfkhblmeioiciaaGreatDoorChecked
import Derived.Shelf.Spec.TrailingZeros
import Derived.DeepKeys3
import Derived.Test.YtfkhblmeioiciaaGreatDoorProg
import Derived.Laws.Externs
set_option maxRecDepth 100000
set_option maxHeartbeats 8000000
set_option linter.defProp false
set_option linter.unusedVariables false
set_option linter.unusedSimpArgs false
namespace Go.Proofs.YtfkhblmeioiciaaGreatDoor
open Go Go.RowKit
def sbit (set i:Int):Bool:=opI .and .i64 (opI .shr .i64 set i) 1==1
structure Snap where
 r0:Int
 r1:Int
 r2:Int
 r3:Int
 r4:Int
 r5:Int
 r6:Int
 r7:Int
 r8:Int
 r9:Int
 r10:Int
 set:Int
 f0:Int
 f1:Int
 f2:Int
 f3:Int
 f4:Int
 f5:Int
 f6:Int
 f7:Int
 f8:Int
 f9:Int
 f10:Int
 f11:Int
 f12:Int
 f13:Int
 f14:Int
 f15:Int
 f16:Int
 f17:Int
 f18:Int
 f19:Int
 f20:Int
 f21:Int
 f22:Int
 f23:Int
 f24:Int
 f25:Int
 f26:Int
 f27:Int
 f28:Int
 f29:Int
 f30:Int
 f31:Int
 f32:Int
 f33:Int
 f34:Int
 f35:Int
 f36:Int
 f37:Int
 f38:Int
 f39:Int
 f40:Int
 f41:Int
 f42:Int
 f43:Int
 f44:Int
 f45:Int
 f46:Int
 f47:Int
 f48:Int
 f49:Int
 f50:Int
 f51:Int
 f52:Int
 f53:Int
 f54:Int
 f55:Int
 f56:Int
 f57:Int
 f58:Int
 f59:Int
 f60:Int
 f61:Int
 f62:Int
 f63:Int
def rok (set i:Int) (t:Ty) (v:Int):Bool:=(t.k==0||sbit set i)&&avA t v
def smac (s:Sta) (lo hi size:Int):Bool:=(size==1||(size==2||(size==4||size==8)))&&(decide (0<=lo)&&(decide (lo<=hi)&&(decide (hi<=opI .sub .i64 64 size)&&smay s)))
def sone (lo hi size:Int):Bool:=(size==8)&&((lo==hi)&&(opI .rem .i64 lo 8==0))
def akv (s:Sta) (n:Int):Ty:=if n=0 then s.s0 else if n=1 then s.s1 else if n=2 then s.s2 else if n=3 then s.s3 else if n=4 then s.s4 else if n=5 then s.s5 else if n=6 then s.s6 else s.s7
def od (s:Sta) (lo hi size:Int):Ty:=if smac s lo hi size=true then(if sone lo hi size=true then akv s (opI .quo .i64 lo 8) else ty 1 (vbyt size) 0 0) else tnil
def sC (s:Sta) (lo hi size:Int):Int:=if smac s lo hi size=true then 0 else 2
def sput (s:Sta) (p:Int->Bool) (t:Ty):Sta:={s with s0:=if p 0=true then t else s.s0,s1:=if p 1=true then t else s.s1,s2:=if p 2=true then t else s.s2,s3:=if p 3=true then t else s.s3,s4:=if p 4=true then t else s.s4,s5:=if p 5=true then t else s.s5,s6:=if p 6=true then t else s.s6,s7:=if p 7=true then t else s.s7}
def gV (s:Sta) (lo hi size:Int) (t:Ty):Sta:=
 if smac s lo hi size=true/\tset t=true then(if sone lo hi size=true then sput s (fun k=>k==opI .quo .i64 lo 8) t else sput s (fun k=>decide (lo<8*k+8)&&decide (8*k<hi+size)) tscal) else snil
def oa (s:Sta) (lo hi size:Int) (t:Ty):Int:=if smac s lo hi size=true/\tset t=true then 0 else 2
theorem sB {s:Sta} {lo hi size:Int} (h:smac s lo hi size=true):smay s=true/\0<=lo/\lo<=hi/\hi+size<=64/\(size=1\/size=2\/size=4\/size=8):=by
 unfold smac at h
 simp only[thm0,bH,db,aZ] at h
 obtain⟨h1,h2,h3,h4,h5⟩:=h
 have e:opI .sub .i64 64 size=64-size:=by show IntKind.i64.wrap (64-size)=_;rw[aR];omega
 rw[e] at h4
 exact⟨h5,h2,h3,by omega,by omega⟩
theorem quo8 {i:Int} (h0:0<=i) (h1:i<=64):opI .quo .i64 i 8=i / 8:=by
 show IntKind.i64.wrap (i.tdiv 8)=_
 rw[Int.tdiv_eq_ediv_of_nonneg h0,aR];omega
theorem qv {s:Sta} {lo hi size:Int} (h:smac s lo hi size=true):opI .quo .i64 (opI .sub .i64 (opI .add .i64 hi size) 1) 8=(hi+size-1) / 8/\opI .add .i64 hi size=hi+size:=by
 obtain⟨-,h1,h2,h3,h4⟩:=sB h
 have e1:opI .add .i64 hi size=hi+size:=by show IntKind.i64.wrap (hi+size)=_;rw[aR];omega
 have e2:opI .sub .i64 (hi+size) 1=hi+size-1:=by show IntKind.i64.wrap (hi+size-1)=_;rw[aR];omega
 rw[e1,e2]
 exact⟨quo8 (by omega) (by omega),rfl⟩
theorem aa1 {s:Sta} {lo hi size:Int} (h:smac s lo hi size=false):od s lo hi size=tnil/\sC s lo hi size=2:=by unfold od sC;rw[h];exact⟨rfl,rfl⟩
theorem qJ {s:Sta} {lo hi size:Int} (h:smac s lo hi size=true) (h1:sone lo hi size=false):od s lo hi size=ty 1 (vbyt size) 0 0/\sC s lo hi size=0:=by unfold od sC;rw[h,h1];exact⟨rfl,rfl⟩
theorem bm {s:Sta} {lo hi size:Int} (h:smac s lo hi size=true) (h1:sone lo hi size=true):od s lo hi size=akv s (opI .quo .i64 lo 8)/\sC s lo hi size=0:=by unfold od sC;rw[h,h1];exact⟨rfl,rfl⟩
theorem apM {s:Sta} {lo hi size:Int} (h:smac s lo hi size=true):opI .quo .i64 lo 8=lo / 8/\0<=lo / 8/\lo / 8<=7:=by
 obtain⟨-,h1,h2,h3,h4⟩:=sB h
 exact⟨quo8 (by omega) (by omega),by omega,by omega⟩
theorem ain {s:Sta} {lo hi size:Int} {n:Int} (h:smac s lo hi size=true) (hn:n=opI .quo .i64 lo 8) (h0:(n==0)=false) (h1:(n==1)=false) (h2:(n==2)=false) (h3:(n==3)=false) (h4:(n==4)=false) (h5:(n==5)=false) (h6:(n==6)=false) (h7:(n==7)=false):False:=by
 obtain⟨e,a,b⟩:=apM h
 rw[e] at hn
 simp only[beq_eq_false_iff_ne] at h0 h1 h2 h3 h4 h5 h6 h7
 omega
theorem sx {s:Sta} {lo hi size:Int} (h:decide (lo<0)=true):smac s lo hi size=false:=by
 have:=thm3 h
 unfold smac;rw[show decide (0<=lo)=false from fW (by omega)];simp only[aP,aO]
theorem sA {s:Sta} {lo hi size:Int} (h:decide (hi<lo)=true):smac s lo hi size=false:=by
 have:=thm3 h
 unfold smac;rw[show decide (lo<=hi)=false from fW (by omega)];simp only[aP,aO]
theorem nr {s:Sta} {lo hi size:Int} (h:decide (opI .sub .i64 64 size<hi)=true):smac s lo hi size=false:=by
 have:=thm3 h
 unfold smac;rw[show decide (hi<=opI .sub .i64 64 size)=false from fW (by omega)];simp only[aP,aO]
theorem afW {s:Sta} {lo hi size:Int} (h1:(size==1)=false) (h2:(size==2)=false) (h3:(size==4)=false) (h4:(size==8)=false):smac s lo hi size=false:=by
 unfold smac;rw[h1,h2,h3,h4];rfl
theorem sy {s:Sta} {lo hi size:Int} (hz:(size==1)=true\/(size==2)=true\/(size==4)=true\/(size==8)=true) (h1:decide (lo<0)=false) (h2:decide (hi<lo)=false):smac s lo hi size=(!decide (opI .sub .i64 64 size<hi)&&smay s):=by
 have:=thm2 h1
 have:=thm2 h2
 unfold smac
 rw[show(size==1||(size==2||(size==4||size==8)))=true from by rcases hz with h | h | h | h<;>simp[h],show decide (0<=lo)=true from dU (by omega),show decide (lo<=hi)=true from dU (by omega),show decide (hi<=opI .sub .i64 64 size) = !decide (opI .sub .i64 64 size<hi) from by rw[aJ];simp]
 rfl
theorem apL {lo hi size:Int} (h1:(size==8)=false):sone lo hi size=false:=by unfold sone;rw[h1];rfl
theorem apK {lo hi size:Int} (h2:(lo==hi)=false):sone lo hi size=false:=by unfold sone;rw[h2,aP,aO]
theorem qI {s:Sta} {p q:Int->Bool} {t:Ty} (h:∀k:Int,0<=k->k<=7->p k=q k):sput s p t=sput s q t:=by
 unfold sput
 rw[h 0 (by omega) (by omega),h 1 (by omega) (by omega),h 2 (by omega) (by omega),h 3 (by omega) (by omega),h 4 (by omega) (by omega),h 5 (by omega) (by omega),h 6 (by omega) (by omega),h 7 (by omega) (by omega)]
theorem afH {s:Sta} {p:Int->Bool} {t:Ty} (h:∀k:Int,0<=k->k<=7->p k=false):sput s p t=s:=by
 rw[qI (q:=fun _=>false) h];rfl
def as1 (s:Sta):List Dt:=[.z s.s0.k,.z s.s0.ul,.z s.s0.uh,.z s.s0.sl,.z s.s0.sh,.z s.s0.v,.z s.s0.m,.z s.s0.lo,.z s.s0.hi,.z s.s1.k,.z s.s1.ul,.z s.s1.uh,.z s.s1.sl,.z s.s1.sh,.z s.s1.v,.z s.s1.m,.z s.s1.lo,.z s.s1.hi,.z s.s2.k,.z s.s2.ul,.z s.s2.uh,.z s.s2.sl,.z s.s2.sh,.z s.s2.v,.z s.s2.m,.z s.s2.lo,.z s.s2.hi,.z s.s3.k,.z s.s3.ul,.z s.s3.uh,.z s.s3.sl,.z s.s3.sh,.z s.s3.v,.z s.s3.m,.z s.s3.lo,.z s.s3.hi,.z s.s4.k,.z s.s4.ul,.z s.s4.uh,.z s.s4.sl,.z s.s4.sh,.z s.s4.v,.z s.s4.m,.z s.s4.lo,.z s.s4.hi,.z s.s5.k,.z s.s5.ul,.z s.s5.uh,.z s.s5.sl,.z s.s5.sh,.z s.s5.v,.z s.s5.m,.z s.s5.lo,.z s.s5.hi,.z s.s6.k,.z s.s6.ul,.z s.s6.uh,.z s.s6.sl,.z s.s6.sh,.z s.s6.v,.z s.s6.m,.z s.s6.lo,.z s.s6.hi,.z s.s7.k,.z s.s7.ul,.z s.s7.uh,.z s.s7.sl,.z s.s7.sh,.z s.s7.v,.z s.s7.m,.z s.s7.lo,.z s.s7.hi]
def pbet (a b:Int) (k:Int):Bool:=decide (a<=k)&&decide (k<b)
theorem akD {s:Sta} {p q:Int->Bool} {t:Ty} (h:∀k:Int,0<=k->k<=7->q k=(p k||(k==0))):sput s q t={sput s p t with s0:=t}:=by
 unfold sput
 simp only[h 0 (by omega) (by omega),show q 1=p 1 from by rw[h 1 (by omega) (by omega)];exact aY _,show q 2=p 2 from by rw[h 2 (by omega) (by omega)];exact aY _,show q 3=p 3 from by rw[h 3 (by omega) (by omega)];exact aY _,show q 4=p 4 from by rw[h 4 (by omega) (by omega)];exact aY _,show q 5=p 5 from by rw[h 5 (by omega) (by omega)];exact aY _,show q 6=p 6 from by rw[h 6 (by omega) (by omega)];exact aY _,show q 7=p 7 from by rw[h 7 (by omega) (by omega)];exact aY _]
 simp
theorem akC {s:Sta} {p q:Int->Bool} {t:Ty} (h:∀k:Int,0<=k->k<=7->q k=(p k||(k==1))):sput s q t={sput s p t with s1:=t}:=by
 unfold sput
 simp only[h 1 (by omega) (by omega),show q 0=p 0 from by rw[h 0 (by omega) (by omega)];exact aY _,show q 2=p 2 from by rw[h 2 (by omega) (by omega)];exact aY _,show q 3=p 3 from by rw[h 3 (by omega) (by omega)];exact aY _,show q 4=p 4 from by rw[h 4 (by omega) (by omega)];exact aY _,show q 5=p 5 from by rw[h 5 (by omega) (by omega)];exact aY _,show q 6=p 6 from by rw[h 6 (by omega) (by omega)];exact aY _,show q 7=p 7 from by rw[h 7 (by omega) (by omega)];exact aY _]
 simp
theorem akB {s:Sta} {p q:Int->Bool} {t:Ty} (h:∀k:Int,0<=k->k<=7->q k=(p k||(k==2))):sput s q t={sput s p t with s2:=t}:=by
 unfold sput
 simp only[h 2 (by omega) (by omega),show q 0=p 0 from by rw[h 0 (by omega) (by omega)];exact aY _,show q 1=p 1 from by rw[h 1 (by omega) (by omega)];exact aY _,show q 3=p 3 from by rw[h 3 (by omega) (by omega)];exact aY _,show q 4=p 4 from by rw[h 4 (by omega) (by omega)];exact aY _,show q 5=p 5 from by rw[h 5 (by omega) (by omega)];exact aY _,show q 6=p 6 from by rw[h 6 (by omega) (by omega)];exact aY _,show q 7=p 7 from by rw[h 7 (by omega) (by omega)];exact aY _]
 simp
theorem akA {s:Sta} {p q:Int->Bool} {t:Ty} (h:∀k:Int,0<=k->k<=7->q k=(p k||(k==3))):sput s q t={sput s p t with s3:=t}:=by
 unfold sput
 simp only[h 3 (by omega) (by omega),show q 0=p 0 from by rw[h 0 (by omega) (by omega)];exact aY _,show q 1=p 1 from by rw[h 1 (by omega) (by omega)];exact aY _,show q 2=p 2 from by rw[h 2 (by omega) (by omega)];exact aY _,show q 4=p 4 from by rw[h 4 (by omega) (by omega)];exact aY _,show q 5=p 5 from by rw[h 5 (by omega) (by omega)];exact aY _,show q 6=p 6 from by rw[h 6 (by omega) (by omega)];exact aY _,show q 7=p 7 from by rw[h 7 (by omega) (by omega)];exact aY _]
 simp
theorem akz {s:Sta} {p q:Int->Bool} {t:Ty} (h:∀k:Int,0<=k->k<=7->q k=(p k||(k==4))):sput s q t={sput s p t with s4:=t}:=by
 unfold sput
 simp only[h 4 (by omega) (by omega),show q 0=p 0 from by rw[h 0 (by omega) (by omega)];exact aY _,show q 1=p 1 from by rw[h 1 (by omega) (by omega)];exact aY _,show q 2=p 2 from by rw[h 2 (by omega) (by omega)];exact aY _,show q 3=p 3 from by rw[h 3 (by omega) (by omega)];exact aY _,show q 5=p 5 from by rw[h 5 (by omega) (by omega)];exact aY _,show q 6=p 6 from by rw[h 6 (by omega) (by omega)];exact aY _,show q 7=p 7 from by rw[h 7 (by omega) (by omega)];exact aY _]
 simp
theorem aky {s:Sta} {p q:Int->Bool} {t:Ty} (h:∀k:Int,0<=k->k<=7->q k=(p k||(k==5))):sput s q t={sput s p t with s5:=t}:=by
 unfold sput
 simp only[h 5 (by omega) (by omega),show q 0=p 0 from by rw[h 0 (by omega) (by omega)];exact aY _,show q 1=p 1 from by rw[h 1 (by omega) (by omega)];exact aY _,show q 2=p 2 from by rw[h 2 (by omega) (by omega)];exact aY _,show q 3=p 3 from by rw[h 3 (by omega) (by omega)];exact aY _,show q 4=p 4 from by rw[h 4 (by omega) (by omega)];exact aY _,show q 6=p 6 from by rw[h 6 (by omega) (by omega)];exact aY _,show q 7=p 7 from by rw[h 7 (by omega) (by omega)];exact aY _]
 simp
theorem akx {s:Sta} {p q:Int->Bool} {t:Ty} (h:∀k:Int,0<=k->k<=7->q k=(p k||(k==6))):sput s q t={sput s p t with s6:=t}:=by
 unfold sput
 simp only[h 6 (by omega) (by omega),show q 0=p 0 from by rw[h 0 (by omega) (by omega)];exact aY _,show q 1=p 1 from by rw[h 1 (by omega) (by omega)];exact aY _,show q 2=p 2 from by rw[h 2 (by omega) (by omega)];exact aY _,show q 3=p 3 from by rw[h 3 (by omega) (by omega)];exact aY _,show q 4=p 4 from by rw[h 4 (by omega) (by omega)];exact aY _,show q 5=p 5 from by rw[h 5 (by omega) (by omega)];exact aY _,show q 7=p 7 from by rw[h 7 (by omega) (by omega)];exact aY _]
 simp
theorem akw {s:Sta} {p q:Int->Bool} {t:Ty} (h:∀k:Int,0<=k->k<=7->q k=(p k||(k==7))):sput s q t={sput s p t with s7:=t}:=by
 unfold sput
 simp only[h 7 (by omega) (by omega),show q 0=p 0 from by rw[h 0 (by omega) (by omega)];exact aY _,show q 1=p 1 from by rw[h 1 (by omega) (by omega)];exact aY _,show q 2=p 2 from by rw[h 2 (by omega) (by omega)];exact aY _,show q 3=p 3 from by rw[h 3 (by omega) (by omega)];exact aY _,show q 4=p 4 from by rw[h 4 (by omega) (by omega)];exact aY _,show q 5=p 5 from by rw[h 5 (by omega) (by omega)];exact aY _,show q 6=p 6 from by rw[h 6 (by omega) (by omega)];exact aY _]
 simp
theorem fI {s:Sta} {lo hi size:Int} {t:Ty} (h:smac s lo hi size=false\/tset t=false):gV s lo hi size t=snil/\oa s lo hi size t=2:=by
 have:¬(smac s lo hi size=true/\tset t=true):=by rcases h with h | h<;>simp[h]
 exact⟨by unfold gV;rw[if_neg this],by unfold oa;rw[if_neg this]⟩
theorem aT {s:Sta} {lo hi size:Int} {t:Ty} (h:smac s lo hi size=true) (ht:tset t=true) (h1:sone lo hi size=true):gV s lo hi size t=sput s (fun k=>k==opI .quo .i64 lo 8) t/\oa s lo hi size t=0:=by
 exact⟨by unfold gV;rw[if_pos ⟨h,ht⟩,if_pos h1],by unfold oa;rw[if_pos ⟨h,ht⟩]⟩
theorem nZ {s:Sta} {lo hi size:Int} {t:Ty} (h:smac s lo hi size=true) (ht:tset t=true) (h1:sone lo hi size=false):gV s lo hi size t=sput s (fun k=>decide (lo<8*k+8)&&decide (8*k<hi+size)) tscal/\oa s lo hi size t=0:=by
 exact⟨by unfold gV;rw[if_pos ⟨h,ht⟩,if_neg (by rw[h1];simp)],by unfold oa;rw[if_pos ⟨h,ht⟩]⟩
theorem afs {t:Ty} (h:(t.k==0)=true):tset t=false:=by unfold tset;rw[h,Bool.not_true,aO]
theorem ano {t:Ty} (h:tok t=false):tset t=false:=by unfold tset;rw[h,aP]
theorem da {t:Ty} (h:(t.k==0)=false) (h2:tok t=true):tset t=true:=by unfold tset;rw[h,h2];rfl
theorem asp {s:Sta} {lo hi size n:Int} (h:smac s lo hi size=true) (h1:n<=(hi+size-1) / 8+1) (h2:(hi+size-1) / 8<n):sput s (pbet (lo / 8) n) tscal=sput s (fun k=>decide (lo<8*k+8)&&decide (8*k<hi+size)) tscal:=by
 obtain⟨-,g1,g2,g3,g4⟩:=sB h
 refine qI fun k k0 k1=> ?_
 unfold pbet
 rw[aJ]
 simp only[thm0,aZ]
 omega
theorem fj {a n k:Int} (hn:a<=n):pbet a (n+1) k=(pbet a n k||(k==n)):=by
 unfold pbet
 rw[aJ]
 simp only[thm0,bH,aZ,db]
 omega
open Go.ChangeShapes Go.WideShapes
def repL (ks:List CE):Nat->List CE
 | 0=>[]
 | n+1=>ks++repL ks n
theorem abW (ks:List CE):∀n,(repL ks n).length=n*ks.length
 | 0=>by simp[repL]
 | n+1=>by simp only[repL,eV,abW ks n,Nat.succ_mul];omega
theorem Rw.array {P:Program} {t e:TypeId} {ks:List CE} {n:Nat} (r:Rw P e ks) (ht:P.underlying t=some (.array n e)) (hc:P.cellsOf t=(repL ks n).length):Rw P t (repL ks n) where
 cells:=hc
 opn:=fun {H} {enc} {W} {sp} {hd} {fuel} {cs} {d} h=>by
  obtain⟨xs,m,_,_,hl,hlen,hf⟩:=DataW.trod_array ht h
  rw[hc,abW] at hl
  have key:∀(k i:Nat),i+k=n->∃q,cs.drop (i*ks.length)=rowV (repL ks k) q/\aG (repL ks k) q=true:=by
   intro k
   induction k with
   | zero=>intro i hi;exact⟨[],by rw[List.drop_eq_nil_of_le (by rw[hl];exact Nat.mul_le_mul_right _ (by omega))];rfl,rfl⟩
   | succ k ih=>
     intro i hi
     have h1:=hf i (by omega)
     rw[r.cells,thm6 (by omega)] at h1
     obtain⟨a,ha,ha'⟩:=r.opn h1
     obtain⟨b,hb,hb'⟩:=ih (i+1) (by omega)
     refine⟨a++b,?_,pA ha' hb'⟩
     show _=rowV (ks++repL ks k) _
     rw[uk ha',<-ha,<-hb,Nat.succ_mul,<-List.drop_drop,List.take_append_drop]
  obtain⟨q,h1,h2⟩:=key n 0 (by omega)
  rw[Nat.zero_mul,List.drop_zero] at h1
  exact⟨q,h1,h2⟩
theorem adm {k:CE} {ks:List CE} {q:List Int} (h:aG (k::ks) q=true):∃x q',q=x::q'/\inCE k x=true/\aG ks q'=true:=by
 cases q with
 | nil=>cases h
 | cons x q'=>
   simp only[aG,thm0] at h
   exact⟨x,q',rfl,h.1,h.2⟩
theorem ah7 {q:List Int} (h:aG [] q=true):q=[]:=by
 cases q with
 | nil=>rfl
 | cons=>cases h
def Kl (P:Program) (d t:Nat) (z:List C):Prop:=∀vs,aF vs z->P.keyLits d t vs=some (bJ vs)
def repC (z:List C):Nat->List C
 | 0=>[]
 | n+1=>z++repC z n
theorem dw:∀{z:List C} {vs:List Value},aF vs z->vs.length=z.length
 | [],vs,h=>by rw[aU h];rfl
 | .int k e::r,vs,h=>by
   obtain⟨x,l,rfl,_,h2⟩:=ak h
   simp[dw h2]
 | .bool e::r,vs,h=>by
   obtain⟨x,l,rfl,h2⟩:=cQ h
   simp[dw h2]
 | .yld _::_,vs,h | .wn _ _ _ _ _::_,vs,h | .aw _ _ _ _ _ _ _::_,vs,h | .str _::_,vs,h | .pe _ _ _ _ _ _::_,vs,h | .nmp::_,vs,h | .mp _::_,vs,h | .itp _ _::_,vs,h | .ptr _ _::_,vs,h | .fp _ _::_,vs,h | .fn _::_,vs,h | .np::_,vs,h | .undef::_,vs,h | .sl _::_,vs,h | .ep _ _ _ _::_,vs,h | .nsl::_,vs,h | .nf::_,vs,h | .clo _ _ _::_,vs,h=>by
   cases vs with
   | nil=>exact h.elim
   | cons v l=>cases v<;>exact h.elim
theorem ja:∀{z z':List C} {vs:List Value},aF vs (z++z')->∃v1 v2,vs=v1++v2/\aF v1 z/\aF v2 z'/\bJ vs=bJ v1++bJ v2
 | [],z',vs,h=>⟨[],vs,rfl,trivial,h,rfl⟩
 | .int k e::r,z',vs,h=>by
   obtain⟨x,l,rfl,hx,h2⟩:=ak (r:=r++z') h
   obtain⟨v1,v2,rfl,h3,h4,h5⟩:=ja h2
   exact⟨.int k x::v1,v2,rfl,⟨rfl,hx,h3⟩,h4,by simp[bJ,h5]⟩
 | .bool e::r,z',vs,h=>by
   obtain⟨x,l,rfl,h2⟩:=cQ (r:=r++z') h
   obtain⟨v1,v2,rfl,h3,h4,h5⟩:=ja h2
   exact⟨.bool x::v1,v2,rfl,h3,h4,by simp[bJ,h5]⟩
 | .yld _::_,_,vs,h | .wn _ _ _ _ _::_,_,vs,h | .aw _ _ _ _ _ _ _::_,_,vs,h | .str _::_,_,vs,h | .pe _ _ _ _ _ _::_,_,vs,h | .nmp::_,_,vs,h | .mp _::_,_,vs,h | .itp _ _::_,_,vs,h | .ptr _ _::_,_,vs,h | .fp _ _::_,_,vs,h | .fn _::_,_,vs,h | .np::_,_,vs,h | .undef::_,_,vs,h | .sl _::_,_,vs,h | .ep _ _ _ _::_,_,vs,h | .nsl::_,_,vs,h | .nf::_,_,vs,h | .clo _ _ _::_,_,vs,h=>by
   cases vs with
   | nil=>exact h.elim
   | cons v l=>cases v<;>exact h.elim
theorem Kl.int {P:Program} {d t:Nat} {k:IntKind} (e:E) (ht:P.underlying t=some (.int k)):Kl P (d+1) t [.int k e]:=fun vs hv=>by
 obtain⟨x,l,rfl,hx,h2⟩:=ak hv
 obtain rfl:=aU h2
 have hw:(Lit.int k x).wf=true:=hx
 simp[Program.keyLits,ht,bJ,hw]
theorem Kl.array {P:Program} {d t e n:Nat} {z:List C} (h:Kl P d e z) (ht:P.underlying t=some (.array n e)) (he:P.cellsOf e=z.length) (hc:P.cellsOf t=n*z.length):Kl P (d+1) t (repC z n):=fun vs hv=>by
 have key:∀(k i:Nat) (cs us:List Value),cs.drop (i*z.length)=us->aF us (repC z k)->∃ls,((List.range' i k).mapM fun i=>P.keyLits d e ((cs.drop (i*P.cellsOf e)).take (P.cellsOf e)))=some ls/\ls.flatten=bJ us:=by
  intro k
  induction k with
  | zero=>intro i cs us _ hu;exact⟨[],rfl,by rw[aU hu];rfl⟩
  | succ k ih=>
    intro i cs us hd hu
    obtain⟨v1,v2,rfl,h1,h2,h3⟩:=ja (z:=z) (z':=repC z k) hu
    have hl:=dw h1
    obtain⟨ls,g1,g2⟩:=ih (i+1) cs v2 (by rw[Nat.succ_mul,<-List.drop_drop,hd,List.drop_left' hl]) h2
    refine⟨bJ v1::ls,?_,by rw[List.flatten_cons,g2,h3]⟩
    rw[List.range'_succ,List.mapM_cons,he,hd,List.take_left' hl,h v1 h1]
    rw[he] at g1
    simp only[Option.pure_def,Option.bind_eq_bind,Option.bind_some,g1]
 obtain⟨ls,g1,g2⟩:=key n 0 vs vs (by simp) hv
 have hl:vs.length=P.cellsOf t:=by
  have hr:∀m,(repC z m).length=m*z.length:=fun m=>by
   induction m with
   | zero=>simp[repC]
   | succ m ih=>simp only[repC,eV,ih,Nat.succ_mul];omega
  rw[hc,dw hv,hr]
 simp only[Program.keyLits,ht,hl,if_true]
 rw[List.range_eq_range',g1]
 simp[g2]
def KlSeq (P:Program) (d off:Nat) (fs:List Field) (z:List C):Prop:=∀(cs us:List Value),cs.drop off=us->aF us z->∃ls,(fs.mapM fun f=>P.keyLits d f.type ((cs.drop f.offset).take (P.cellsOf f.type)))=some ls/\ls.flatten=bJ us
theorem KlSeq.nil (P:Program) (d off:Nat):KlSeq P d off [] []:=fun cs us _ hu=>⟨[],rfl,by rw[aU hu];rfl⟩
theorem KlSeq.cons {P:Program} {d off:Nat} {f:Field} {fs:List Field} {z z':List C} (h:Kl P d f.type z) (ho:f.offset=off) (hc:P.cellsOf f.type=z.length) (h':KlSeq P d (off+z.length) fs z'):KlSeq P d off (f::fs) (z++z'):=fun cs us hd hu=>by
 obtain⟨v1,v2,rfl,h1,h2,h3⟩:=ja hu
 have hl:=dw h1
 obtain⟨ls,g1,g2⟩:=h' cs v2 (by rw[<-List.drop_drop,hd,List.drop_left' hl]) h2
 refine⟨bJ v1::ls,?_,by rw[List.flatten_cons,g2,h3]⟩
 rw[List.mapM_cons,ho,hc,hd,List.take_left' hl,h v1 h1]
 simp only[Option.pure_def,Option.bind_eq_bind,Option.bind_some,g1]
theorem Kl.struct {P:Program} {d t:Nat} {fs:Array Field} {z:List C} (h:KlSeq P d 0 fs.toList z) (ht:P.underlying t=some (.struct fs)) (hc:P.cellsOf t=z.length) (hn:fs.all (·.name != "_")=true):Kl P (d+1) t z:=fun vs hv=>by
 obtain⟨ls,g1,g2⟩:=h vs vs rfl hv
 have hl:vs.length=P.cellsOf t:=by rw[hc,dw hv]
 simp only[Program.keyLits,ht,hl,hn,and_self,if_true,g1]
 simp[g2]
theorem ajf {P:Program} {t:Nat} {fs:Array Field} {z:List C} (ht:P.underlying t=some (.struct fs)) (hc:P.cellsOf t=z.length) (vs:List Value) (hv:aF vs z):(Value.agg vs.toArray).formed P t=true:=by
 simp[Value.formed,ht,hc,dw hv]
theorem eqI {a b:Int} (h:(a==b)=true):a=b:=by simpa using h
theorem neI {a b:Int} (h:(a==b)=false):a≠b:=by simpa using h
structure Ins where
 k:Int
 op:Int
 w:Int
 sz:Int
 br:Bool
 d:Int
 s:Int
 off:Int
 imm:Int
structure Prog where
 ctx:Int
 l:List (List Int)
def bO (n:Int):Bool:=n==1||(n==2||(n==4||n==8))
def immz (x:Ins):Ins:=if x.br=true then {x with s:=0,br:=false} else {x with imm:=0,br:=false}
def bU (x:Ins):Ins×Bool:=
 if x.k=0 then({immz x with op:=0,w:=0,d:=0},(decide (0<=x.op)&&decide (x.op<=12))&&((x.w==32||x.w==64)&&(decide (x.d<10)&&(!(x.op==8)||(!x.br&&x.imm==0)))))
 else if x.k=1 then({x with sz:=0,d:=0,s:=0,off:=0},bO x.sz&&decide (x.d<10))
 else if x.k=2 then({x with sz:=0,d:=0,s:=0,off:=0},bO x.sz)
 else if x.k=3 then({immz x with op:=0,d:=0,off:=0},decide (0<=x.op)&&decide (x.op<=10))
 else if x.k=4 then({x with off:=0},true)
 else if x.k=5 then({x with imm:=0},decide (0<=x.imm)&&decide (x.imm<=15))
 else if x.k=6 then(x,true)
 else(x,false)
def pR (x y:Ins):Bool:=y.k==x.k&&(y.op==0&&(y.w==0&&(y.sz==0&&(!y.br&&(y.d==0&&(y.s==0&&(y.off==0&&y.imm==0)))))))
def na (x:Ins):Bool:=(decide (0<=x.d)&&decide (x.d<=10))&&((decide (0<=x.s)&&decide (x.s<=10))&&((decide (-32768<=x.off)&&decide (x.off<=32767))&&(decide (-2147483648<=x.imm)&&decide (x.imm<=2147483647))))
def imay (x:Ins):Bool:=na x&&((bU x).2&&pR x (bU x).1)
def itgt (i:Int) (x:Ins):Int×Bool:=
 if(x.k=3\/x.k=4)/\((decide (-1099511627776<=i)&&decide (i<=1099511627776))&&(decide (-1099511627776<=x.off)&&decide (x.off<=1099511627776)))=true then(opI .add .i64 (opI .add .i64 i 1) x.off,true) else(0,false)
def uI (n:Int):Int:=if(decide (0<=n)&&decide (n<=15))=true then opI .rem .i64 n 6 else 0
def bit1 (n:Int):Int:=opI .shl .i64 1 n
def vrd (x:Ins):Int:=
 if imay x=true then
  if x.k=0 then(if x.op=11 then(if x.br=true then bit1 x.s else 0) else opI .or .i64 (bit1 x.d) (if x.br=true then bit1 x.s else 0))
  else if x.k=1 then bit1 x.s
  else if x.k=2 then opI .or .i64 (bit1 x.d) (bit1 x.s)
  else if x.k=3 then opI .or .i64 (bit1 x.d) (if x.br=true then bit1 x.s else 0)
  else if x.k=5 then opI .sub .i64 (opI .shl .i64 1 (opI .add .i64 (uI x.imm) 1)) 2
  else if x.k=6 then 1 else 0
 else 0
def vwr (x:Ins):Int:=if imay x=true then(if x.k=0\/x.k=1 then bit1 x.d else if x.k=5 then 63 else 0) else 0
theorem nb {x:Ins} (h:imay x=true):0<=x.d/\x.d<=10/\0<=x.s/\x.s<=10 /\ -32768<=x.off/\x.off<=32767/\0<=x.k/\x.k<=6:=by
 unfold imay na at h
 simp only[thm0,aZ] at h
 obtain⟨⟨⟨a,b⟩,⟨c,d⟩,⟨e,f⟩,_⟩,h2,_⟩:=h
 have:0<=x.k/\x.k<=6:=by
  unfold bU at h2
  split at h2;· omega
  split at h2;· omega
  split at h2;· omega
  split at h2;· omega
  split at h2;· omega
  split at h2;· omega
  split at h2;· omega
  cases h2
 omega
theorem lH (n:Int):0<=uI n/\uI n<=5:=by
 unfold uI
 split
 ·rename_i h
  simp only[thm0,aZ] at h
  show 0<=n.tmod 6/\n.tmod 6<=5
  rw[Int.tmod_eq_emod_of_nonneg h.1]
  omega
 ·omega
theorem aoe {i:Int} {x:Ins} (hk:x.k=3\/x.k=4) (h1:(decide (-1099511627776<=i)&&decide (i<=1099511627776))=true) (h2:(decide (-1099511627776<=x.off)&&decide (x.off<=1099511627776))=true):itgt i x=(opI .add .i64 (opI .add .i64 i 1) x.off,true):=by
 unfold itgt;rw[if_pos ⟨hk,by rw[h1,h2];rfl⟩]
theorem aog {i:Int} {x:Ins} (h1:(decide (-1099511627776<=i)&&decide (i<=1099511627776))=false):itgt i x=(0,false):=by
 unfold itgt;rw[if_neg (fun h=>by rw[h1] at h;exact absurd h.2 (by simp))]
theorem aof {i:Int} {x:Ins} (h2:(decide (-1099511627776<=x.off)&&decide (x.off<=1099511627776))=false):itgt i x=(0,false):=by
 unfold itgt;rw[if_neg (fun h=>by rw[h2] at h;exact absurd h.2 (by simp))]
theorem auI {i:Int} {x:Ins} (h3:(x.k==3)=false) (h4:(x.k==4)=false):itgt i x=(0,false):=by
 unfold itgt;rw[if_neg (fun h=>by rcases h.1 with h | h<;>simp[h] at h3 h4)]
theorem ash {n:Int} (h:(decide (0<=n)&&decide (n<=15))=true):uI n=opI .rem .i64 n 6:=if_pos h
theorem asi {n:Int} (h:(decide (0<=n)&&decide (n<=15))=false):uI n=0:=if_neg (by rw[h];simp)
def ab (l:List (List Int)) (i:Int):Ins:=⟨gt l i 0,gt l i 1,gt l i 2,gt l i 3,gt l i 4==1,gt l i 5,gt l i 6,gt l i 7,gt l i 8⟩
theorem af (l:List (List Int)) (i:Int):(⟨gt l i 0,gt l i 1,gt l i 2,gt l i 3,gt l i 4==1,gt l i 5,gt l i 6,gt l i 7,gt l i 8⟩:Ins)=ab l i:=rfl
def Prog.last (p:Prog):Int:=opI .sub .i64 (p.l.length:Int) 1
def mG (p:Prog) (n:Int):Option Int:=
 if imay (ab p.l n)=false then some 31
 else if(itgt n (ab p.l n)).2=true/\(decide (0<=(itgt n (ab p.l n)).1)&&decide ((itgt n (ab p.l n)).1<=p.last))=false then some 32 else none
def scan (p:Prog):Nat->Nat->Option (Int×Int)
 | 0,_=>none
 | m+1,n=>match mG p n with
   | some e=>some (n,e)
   | none=>scan p m (n+1)
def bj (p:Prog):Int×Int:=
 if(decide (0<=p.ctx)&&decide (p.ctx<=256))=false then(0,2)
 else if(decide (0<=p.last)&&decide (p.last<=63))=false then(0,3)
 else match scan p p.l.length 0 with
  | some r=>r
  | none=>if(ab p.l p.last).k=4\/(ab p.l p.last).k=6 then(0,0) else(p.last,33)
theorem adC {p:Prog} (c0:(decide (0<=p.ctx)&&decide (p.ctx<=256))=false):bj p=(0,2):=by unfold bj;rw[if_pos c0]
theorem adB {p:Prog} (c0:(decide (0<=p.ctx)&&decide (p.ctx<=256))=true) (c1:(decide (0<=p.last)&&decide (p.last<=63))=false):bj p=(0,3):=by
 unfold bj;rw[if_neg (by rw[c0];simp),if_pos c1]
theorem wq {p:Prog} {n:Nat} (h:n<p.l.length) (hb:mG p n=none):scan p (p.l.length-n) n=scan p (p.l.length-(n+1)) (n+1):=by
 rw[show p.l.length-n=(p.l.length-(n+1))+1 by omega]
 simp only[scan,hb]
theorem rp {p:Prog} {n:Nat} {e:Int} (c0:(decide (0<=p.ctx)&&decide (p.ctx<=256))=true) (c1:(decide (0<=p.last)&&decide (p.last<=63))=true) (hs:scan p p.l.length 0=scan p (p.l.length-n) n) (h:n<p.l.length) (hb:mG p n=some e):bj p=((n:Int),e):=by
 unfold bj
 rw[if_neg (by rw[c0];simp),if_neg (by rw[c1];simp),hs,show p.l.length-n=(p.l.length-(n+1))+1 by omega]
 simp only[scan,hb]
theorem mE {p:Prog} {n:Nat} (c0:(decide (0<=p.ctx)&&decide (p.ctx<=256))=true) (c1:(decide (0<=p.last)&&decide (p.last<=63))=true) (hs:scan p p.l.length 0=scan p (p.l.length-n) n) (h:n=p.l.length):bj p=if(ab p.l p.last).k=4\/(ab p.l p.last).k=6 then(0,0) else(p.last,33):=by
 unfold bj
 rw[if_neg (by rw[c0];simp),if_neg (by rw[c1];simp),hs,h,Nat.sub_self]
 rfl
theorem yq {p:Prog} {n:Int} (h:imay (ab p.l n)=false):mG p n=some 31:=by unfold mG;rw[if_pos h]
theorem acR {p:Prog} {n:Int} (h:imay (ab p.l n)=true) (h2:(itgt n (ab p.l n)).2=true) (h3:(decide (0<=(itgt n (ab p.l n)).1)&&decide ((itgt n (ab p.l n)).1<=p.last))=false):mG p n=some 32:=by
 unfold mG;rw[if_neg (by rw[h];simp),if_pos ⟨h2,h3⟩]
theorem acS {p:Prog} {n:Int} (h:imay (ab p.l n)=true) (h2:(itgt n (ab p.l n)).2=false\/(decide (0<=(itgt n (ab p.l n)).1)&&decide ((itgt n (ab p.l n)).1<=p.last))=true):mG p n=none:=by
 unfold mG;rw[if_neg (by rw[h];simp),if_neg (fun q=>by rcases h2 with h2 | h2<;>rw[h2] at q<;>simp at q)]
theorem zZ {p:Prog} (c1:(decide (0<=p.last)&&decide (p.last<=63))=true) (hl:p.l.length<=maxLen):p.last=(p.l.length:Int)-1/\1<=p.l.length/\p.l.length<=64:=by
 simp only[thm0,aZ] at c1
 have e:p.last=(p.l.length:Int)-1:=by
  unfold Prog.last
  show IntKind.i64.wrap ((p.l.length:Int)-1)=_
  rw[aR];simp[maxLen] at hl;omega
 omega
theorem addN {n m:Nat} (h:n<m) (hm:m<=maxLen):opI .add .i64 (n:Int) 1=((n+1:Nat):Int):=by
 show IntKind.i64.wrap ((n:Int)+1)=_
 rw[aR];simp[maxLen] at hm;omega
theorem ah (l:List (List Int)) (i:Int):ab [[gt l i 0,gt l i 1,gt l i 2,gt l i 3,b2i (gt l i 4==1),gt l i 5,gt l i 6,gt l i 7,gt l i 8]] 0=ab l i:=by
 show(⟨gt l i 0,gt l i 1,gt l i 2,gt l i 3,b2i (gt l i 4==1)==1,gt l i 5,gt l i 6,gt l i 7,gt l i 8⟩:Ins)=_
 rw[b2i_one];rfl
theorem auJ {v:Int} (h:inK .i8 v=true):IntKind.i64.wrap v=v:=by
 simp[inK,IntKind.min,IntKind.max,IntKind.signed,IntKind.bits] at h
 rw[aR]
 omega
def tptr (t:Ty):Bool:=(t.k==2)||(t.k==3)
def tsc (s:Sc):Ty:=ty 1 s 0 0
def far2 (n:Int):Bool:=decide (-1048576<=n)&&decide (n<=1048576)
def mlo (s:Sc) (b:Bool):Int:=if b=true then IntKind.i64.wrap (0-s.sh) else s.sl
def mhi (s:Sc) (b:Bool):Int:=if b=true then IntKind.i64.wrap (0-s.sl) else s.sh
def cU (t:Ty) (s:Sc) (b:Bool):Ty:={t with lo:=IntKind.i64.wrap (t.lo+mlo s b),hi:=IntKind.i64.wrap (t.hi+mhi s b)}
def jo (t:Ty) (s:Sc) (b:Bool):Ty:=
 if(decide (-1048576<=s.sl)&&decide (s.sh<=1048576))=true/\(far2 (cU t s b).lo&&far2 (cU t s b).hi)=true then cU t s b else tscal
def aluA (x:Ins) (a b:Ty):Ty:=if x.op=11 then b else a
def aluB (x:Ins) (b:Ty):Ty:=if x.op=8 then tsc (vone 0) else b
def gH (op w:Int) (a b:Ty):Ty:=
 if(!tptr a &&!tptr b)=true then tsc (vdo op w a.s b.s)
 else if w=64/\tptr b=false/\(op=0\/op=1) then jo a b.s (op==1)
 else if w=64/\tptr a=false/\op=0 then jo b a.s false
 else if w=64 then tscal
 else tsc (vbyt 4)
def valu (x:Ins) (a b:Ty):Ty:=if x.op=11/\x.w=64 then b else gH x.op x.w (aluA x a b) (aluB x b)
def aB (ctx:Int) (t:Ty) (off size:Int):Bool:=
 tptr t&&(bO size&&((far2 off&&(far2 t.lo&&far2 t.hi))&&(decide (t.lo<=t.hi)&&(decide (0<=t.lo+off)&&decide (t.hi+off+size<=if t.k=2 then ctx else 64)))))
theorem pT {t:Ty} (h:(t.k==2)=true):tptr t=true:=by unfold tptr;rw[h];rfl
theorem pU {t:Ty} (h:(t.k==3)=true):tptr t=true:=by unfold tptr;rw[h,Bool.or_true]
theorem pF {t:Ty} (h:(t.k==2)=false) (h2:(t.k==3)=false):tptr t=false:=by unfold tptr;rw[h,h2];rfl
section
variable {x:Ins} {a b:Ty} {op w:Int}
theorem va_m (h:(x.op==11)=true) (h2:(x.w==64)=true):valu x a b=b:=if_pos ⟨eqI h,eqI h2⟩
theorem va_o (h:(x.op==11)=true) (h2:(x.w==64)=false):valu x a b=gH x.op x.w b b:=by
 unfold valu aluA aluB
 rw[if_neg (fun e=>neI h2 e.2),if_pos (eqI h),if_neg (by have:=eqI h;omega)]
theorem va_n (h:(x.op==11)=false) (h2:(x.op==8)=true):valu x a b=gH x.op x.w a (tsc (vone 0)):=by
 unfold valu aluA aluB
 rw[if_neg (fun e=>neI h e.1),if_neg (neI h),if_pos (eqI h2)]
theorem va_e (h:(x.op==11)=false) (h2:(x.op==8)=false):valu x a b=gH x.op x.w a b:=by
 unfold valu aluA aluB
 rw[if_neg (fun e=>neI h e.1),if_neg (neI h),if_neg (neI h2)]
theorem of_1 (ha:tptr a=false) (hb:tptr b=false):gH op w a b=tsc (vdo op w a.s b.s):=if_pos (by rw[ha,hb];rfl)
theorem of_n (h:tptr a=true\/tptr b=true):¬(!tptr a &&!tptr b)=true:=by
 rcases h with h | h<;>rw[h]<;>simp
theorem of_2 (h:tptr a=true\/tptr b=true) (hw:(w==64)=false):gH op w a b=tsc (vbyt 4):=by
 unfold gH
 rw[if_neg (of_n h),if_neg (fun e=>neI hw e.1),if_neg (fun e=>neI hw e.1),if_neg (neI hw)]
theorem of_3 (ha:tptr a=true) (hb:tptr b=false) (hw:(w==64)=true) (h:op=0\/op=1):gH op w a b=jo a b.s (op==1):=by
 unfold gH
 rw[if_neg (of_n (.inl ha)),if_pos ⟨eqI hw,hb,h⟩]
theorem of_4 (ha:tptr a=false) (hb:tptr b=true) (hw:(w==64)=true) (h:(op==0)=true):gH op w a b=jo b a.s false:=by
 unfold gH
 rw[if_neg (of_n (.inr hb)),if_neg (fun e=>by rw[hb] at e;cases e.2.1),if_pos ⟨eqI hw,ha,eqI h⟩]
theorem of_5 (ha:tptr a=true) (hb:tptr b=true) (hw:(w==64)=true):gH op w a b=tscal:=by
 unfold gH
 rw[if_neg (of_n (.inl ha)),if_neg (fun e=>by rw[hb] at e;cases e.2.1),if_neg (fun e=>by rw[ha] at e;cases e.2.1),if_pos (eqI hw)]
theorem of_6 (ha:tptr a=true) (hw:(w==64)=true) (h:(op==0)=false) (h1:(op==1)=false):gH op w a b=tscal:=by
 unfold gH
 rw[if_neg (of_n (.inl ha)),if_neg (fun e=>e.2.2.elim (neI h) (neI h1)),if_neg (fun e=>neI h e.2.2),if_pos (eqI hw)]
theorem of_7 (hb:tptr b=true) (hw:(w==64)=true) (h:(op==0)=false):gH op w a b=tscal:=by
 unfold gH
 rw[if_neg (of_n (.inr hb)),if_neg (fun e=>by rw[hb] at e;cases e.2.1),if_neg (fun e=>neI h e.2.2),if_pos (eqI hw)]
theorem of_8 (ha:tptr a=true) (hw:(w==64)=true) (h:(op==8)=true):gH op w a b=tscal:=of_6 ha hw (by rw[eqI h];rfl) (by rw[eqI h];rfl)
theorem cg {t:Ty} {s:Sc} {b:Bool} (h:s.sl < -1048576\/1048576<s.sh\/(cU t s b).lo < -1048576\/1048576<(cU t s b).lo\/(cU t s b).hi < -1048576\/1048576<(cU t s b).hi):jo t s b=tscal:=by
 unfold jo far2
 rw[if_neg]
 intro e
 simp only[thm0,aZ] at e
 omega
theorem ra {t:Ty} {s:Sc} {b:Bool} (h0:¬s.sl < -1048576) (h1:¬1048576<s.sh) (h2:¬(cU t s b).lo < -1048576) (h3:¬1048576<(cU t s b).lo) (h4:¬(cU t s b).hi < -1048576) (h5:¬1048576<(cU t s b).hi):jo t s b=cU t s b:=by
 unfold jo far2
 rw[if_pos]
 simp only[thm0,aZ]
 omega
end
def eO (cc:Int):Bool:=decide (0<=cc)&&decide (cc<10)
def gR (cc:Int):Int:=if cc=0 then 1 else if cc=1 then 0 else if cc=2 then 5 else if cc=3 then 4 else if cc=4 then 3 else if cc=5 then 2 else if cc=6 then 9 else if cc=7 then 8 else if cc=8 then 7 else if cc=9 then 6 else 0
def pcnt (n:Int):Int:=if n=1\/n=2\/n=4\/n=8 then 1 else if n=7 then 3 else 2
theorem cnt8 {n:Int} (h:1<=n/\n<=8):n=1\/n=2\/n=3\/n=4\/n=5\/n=6\/n=7\/n=8:=by omega
open Go.Shelf
def avx:Ren:=⟨fun | 29=>37 | n=>n,fun | 0=>0 | 3=>3 | 4=>4 | 5=>5 | 22=>42 | 25=>105 | 54=>81 | n=>n,fun _=>0⟩
theorem avy:Lays7.n29 Tryz.prog avx:={
 mixed:=by kernel_rfl
 f29:=Tryz.func37.trans (congrArg some (by kernel_rfl))
 t0:=Tryz.underlying0
 a0:=Tryz.isAgg0
 z0:=Tryz.sizeOf0
 v0:=Tryz.zeroValue0
 i0:=by kernel_rfl
 t3:=Tryz.underlying3
 a3:=Tryz.isAgg3
 z3:=Tryz.sizeOf3
 v3:=Tryz.zeroValue3
 i3:=by kernel_rfl
 t4:=Tryz.underlying4
 a4:=Tryz.isAgg4
 z4:=Tryz.sizeOf4
 v4:=Tryz.zeroValue4
 i4:=by kernel_rfl
 t5:=Tryz.underlying5
 a5:=Tryz.isAgg5
 z5:=Tryz.sizeOf5
 v5:=Tryz.zeroValue5
 i5:=by kernel_rfl
 t22:=Tryz.underlying42
 a22:=Tryz.isAgg42
 z22:=Tryz.sizeOf42
 v22:=Tryz.zeroValue42
 i22:=by kernel_rfl
 t25:=Tryz.underlying105
 a25:=Tryz.isAgg105
 z25:=Tryz.sizeOf105
 v25:=Tryz.zeroValue105
 i25:=by kernel_rfl
 t54:=Tryz.underlying81
 a54:=Tryz.isAgg81
 z54:=Tryz.sizeOf81
 g1:=by kernel_rfl
}
def sHw (w:World):Prop:=TabAt 0 Lib.deBruijn64tab w
theorem sHx (w w':World) (hx:Ext w w') (h:sHw w):sHw w':=by
 intro j hj
 have h1:=h j hj
 have hlt:0<w.heap.size:=by
  rcases aX 0 w.heap.size with h2 | h2
  ·exact h2
  ·have h3:w.heap[0]? =none:=Array.getElem?_eq_none h2
   simp[World.cell?,h3] at h1
 rw[World.cell?_of_block (a:=⟨0,j,none⟩) (hx.block 0 hlt)]
 exact h1
theorem sHi:∃w,sHw w:=by
 refine⟨(default:World).alloc (.cells (Lib.deBruijn64tab.map fun(n:Nat)=>Value.int .u8 (n:Int)).toArray 0),?_⟩
 intro j hj
 have h0:(default:World).heap.size=0:=rfl
 have:=heap_alloc_new (default:World) (.cells (Lib.deBruijn64tab.map fun(n:Nat)=>Value.int .u8 (n:Int)).toArray 0)
 rw[h0] at this
 rw[je this]
 simp only[Lib.deBruijn64tab,List.length_cons,List.length_nil] at hj
 have key:∀j,j<64->(Lib.deBruijn64tab.map fun(n:Nat)=>Value.int .u8 (n:Int))[j]? =some (.int .u8 (Lib.deBruijn64tab.getD j 0)):=by
  intro j hj
  rw[ji,cW]
  have h1:j<Lib.deBruijn64tab.length:=by simpa[Lib.deBruijn64tab] using hj
  rw[thm6 h1]
  rfl
 exact key j (by omega)
def tzI (x:Int):Int:=Lib.ctz 64 x.toNat
def ago (x:Int):List Dt:=[.z (tzI x)]
def ph:List Dt->List Dt
 | [.z x]=>ago x
 | _=>[]
def zu (key:Nat):Sm:=⟨37,key,[.one (.int .u64)],[.one (.int .i64)],false⟩
theorem au9 (x:Nat) (hx:x<2 ^ 64):Lib.ctz 64 x<=64:=by
 by_cases h:x=0
 ·subst h;decide
 ·exact Nat.le_of_lt (Lib.lowest_bit 64 x h hx).2
theorem ahK {sp:Spec} {key:Nat} (hF:sp.F key=ph) (hH:∀w,sp.hw w->sHw w:=by exact fun _ h=>h):SmOk Tryz.prog sp (zu key):=by
 refine SmOk.pureW hF rfl rfl (fun xs vals w h hh=> ?_)
 obtain⟨_,_,_,rfl,⟨x,rfl,rfl,gx⟩,h⟩:=h
 obtain⟨rfl,rfl⟩:=h
 obtain⟨n,rfl⟩:∃n:Nat,x=n:=by
  simp[inK,IntKind.min,IntKind.max,IntKind.signed,IntKind.bits] at gx
  exact⟨x.toNat,by omega⟩
 have hn:n<2 ^ 64:=by
  simp[inK,IntKind.min,IntKind.max,IntKind.signed,IntKind.bits] at gx
  omega
 have hle:=au9 n hn
 refine⟨.int .i64 (Lib.ctz 64 n),.inr ⟨dG Tryz.func37 (by kernel_rfl) (by kernel_rfl) _ w,?_⟩,?_,fun U v0 nid j he=> ?_⟩
 ·refine(Any7.bits_TrailingZeros64 avy n hn w fun _=>hH w hh).mono ?_
  rintro e w' ⟨rfl,rfl⟩
  exact⟨rfl,.refl _⟩
 ·refine⟨?_,trivial⟩
  show inK .i64 (Lib.ctz 64 (n:Int).toNat:Int)=true
  rw[dj]
  simp[inK,IntKind.min,IntKind.max,IntKind.signed,IntKind.bits]
  omega
 ·have h1:U.i v0=(Lib.ctz 64 (n:Int).toNat:Int):=he.1
  rw[dj] at h1
  show some (Value.int .i64 (U.i v0))=_
  rw[h1]
def avO (p:Prog) (i:Int):List (List Int):=
 if(ab p.l i).k≠4/\(ab p.l i).k≠6 then
  if(itgt i (ab p.l i)).2=true/\(itgt i (ab p.l i)).1≠opI .add .i64 i 1 then[[min (itgt i (ab p.l i)).1 (opI .add .i64 i 1)],[max (itgt i (ab p.l i)).1 (opI .add .i64 i 1)]] else[[opI .add .i64 i 1]]
 else if(itgt i (ab p.l i)).2=true then[[(itgt i (ab p.l i)).1]] else[]
abbrev BV:=BitVec 64
def bvI (x:Int):BV:=BitVec.ofInt 64 x
theorem lM (X:BV):bvI X.toInt=X:=BitVec.ofInt_toInt
theorem anh (X:BV):IntKind.i64.wrap (X.toNat:Int)=X.toInt:=by
 rw[aR,BitVec.toInt_eq_toNat_cond]
 have:=X.isLt
 split<;>omega
theorem an5 (x y:Int):opI .or .i64 x y=(bvI x ||| bvI y).toInt:=anh _
theorem adr (x y:Int):opI .andNot .i64 x y=(bvI x &&& ~~~ bvI y).toInt:=anh _
def iA (L:List BV):List (List Int):=L.map fun x=>[x.toInt]
theorem abO (L:List BV):(iA L).length=L.length:=by simp[iA]
theorem nH {L:List BV} {i:Nat} (h:i<L.length):gt (iA L) i 0=(L.getD i 0).toInt:=by
 simp[gt,iA,h]
theorem aaY {L:List BV} {i:Nat} (h:i<L.length) (X:BV):st (iA L) i 0 X.toInt=iA (L.set i X):=by
 simp[st,iA,h,List.map_set]
def sub (a b:BV):Prop:=∀k,a.getLsbD k=true->b.getLsbD k=true
def nx (p:Prog) (i:Nat):List Nat:=(avO p i).map fun r=>(r.getD 0 0).toNat
def wB (p:Prog) (i:Nat):BV:=bvI (vwr (ab p.l i))
def rB (p:Prog) (i:Nat):BV:=bvI (vrd (ab p.l i))
def orB (I:List BV) (l:List Nat) (a:BV):BV:=l.foldl (fun a m=>a ||| I.getD m 0) a
theorem eC (I:List BV) (k:Nat):∀(l:List Nat) (a:BV),(orB I l a).getLsbD k=true↔a.getLsbD k=true\/∃m,m∈l/\(I.getD m 0).getLsbD k=true
 | [],a=>by simp[orB]
 | m::l,a=>by
   have:=eC I k l (a ||| I.getD m 0)
   unfold orB at *
   rw[List.foldl_cons,this,BitVec.getLsbD_or]
   simp only[bH,List.mem_cons]
   constructor
   ·rintro ((h | h) | ⟨x,h1,h2⟩)
    ·exact .inl h
    ·exact .inr ⟨m,.inl rfl,h⟩
    ·exact .inr ⟨x,.inr h1,h2⟩
   ·rintro (h | ⟨x,rfl | h1,h2⟩)
    ·exact .inl (.inl h)
    ·exact .inl (.inr h2)
    ·exact .inr ⟨x,h1,h2⟩
def stO (p:Prog) (I O:List BV):List BV:=(List.range p.l.length).map fun i=>orB I (nx p i) (O.getD i 0)
def liB (p:Prog) (O:List BV) (i:Nat):BV:=(O.getD i 0 &&& ~~~ wB p i) ||| rB p i
def stI (p:Prog) (O:List BV):List BV:=(List.range p.l.length).map fun i=>liB p O i
theorem yN (p:Prog) (I O:List BV):(stO p I O).length=p.l.length:=by simp[stO]
theorem fu (p:Prog) (O:List BV):(stI p O).length=p.l.length:=by simp[stI]
theorem vT {p:Prog} {I O:List BV} {i:Nat} (h:i<p.l.length):(stO p I O).getD i 0=orB I (nx p i) (O.getD i 0):=by simp[stO,h]
theorem vU {p:Prog} {O:List BV} {i:Nat} (h:i<p.l.length):(stI p O).getD i 0=liB p O i:=by simp[stI,h]
structure Inv (p:Prog) (I O:List BV):Prop where
 li:I.length=p.l.length
 lo:O.length=p.l.length
 up:∀i,i<p.l.length->sub (I.getD i 0) (liB p O i)
 on:∀i,i<p.l.length->sub (O.getD i 0) (orB I (nx p i) 0)
 rd:∀i k,(I.getD i 0).getLsbD k=true->∃j,j<p.l.length/\(rB p j).getLsbD k=true
theorem zX {p:Prog} {O:List BV} {i k:Nat} (hk:k<64):(liB p O i).getLsbD k=true↔(O.getD i 0).getLsbD k=true/\(wB p i).getLsbD k=false\/(rB p i).getLsbD k=true:=by
 unfold liB
 rw[BitVec.getLsbD_or,BitVec.getLsbD_and,BitVec.getLsbD_not]
 simp[hk]
theorem ajM {a:BV} {k:Nat} (h:a.getLsbD k=true):k<64:=by
 rcases aX k 64 with h1 | h1
 ·exact h1
 ·rw[BitVec.getLsbD_of_ge _ _ h1] at h;cases h
theorem Inv.zero (p:Prog):Inv p (List.replicate p.l.length 0) (List.replicate p.l.length 0) where
 li:=by simp
 lo:=by simp
 up:=fun i hi k h=>by simp[hi] at h
 on:=fun i hi k h=>by simp[hi] at h
 rd:=fun i k h=>by
  rcases aX i p.l.length with hi | hi
  ·simp[hi] at h
  ·simp[List.getD,List.getElem?_replicate,Nat.not_lt.2 hi] at h
theorem grow {p:Prog} {I O:List BV} (h:Inv p I O):∀i,sub (I.getD i 0) ((stI p (stO p I O)).getD i 0):=fun i k hk=>by
 rcases aX i p.l.length with hi | hi
 ·rw[vU hi,zX (ajM hk)]
  rcases(zX (ajM hk)).1 (h.up i hi k hk) with⟨h1,h2⟩ | h1
  ·exact .inl ⟨by rw[vT hi];exact(eC _ _ _ _).2 (.inl h1),h2⟩
  ·exact .inr h1
 ·simp[List.getD,bI (h.li▸hi)] at hk
theorem Inv.step {p:Prog} {I O:List BV} (h:Inv p I O):Inv p (stI p (stO p I O)) (stO p I O) where
 li:=fu _ _
 lo:=yN _ _ _
 up:=fun i hi k hk=>by rw[vU hi] at hk;exact hk
 on:=fun i hi k hk=>by
  rw[vT hi] at hk
  have:∃m,m∈nx p i/\(I.getD m 0).getLsbD k=true:=by
   rcases(eC _ _ _ _).1 hk with h1 | h1
   ·rcases(eC _ _ _ _).1 (h.on i hi k h1) with h2 | h2
    ·simp at h2
    ·exact h2
   ·exact h1
  obtain⟨m,h1,h2⟩:=this
  exact(eC _ _ _ _).2 (.inr ⟨m,h1,grow h m k h2⟩)
 rd:=fun i k hk=>by
  rcases aX i p.l.length with hi | hi
  ·rw[vU hi] at hk
   rcases(zX (ajM hk)).1 hk with⟨h1,_⟩ | h1
   ·rw[vT hi] at h1
    rcases(eC _ _ _ _).1 h1 with h2 | ⟨m,_,h2⟩
    ·rcases(eC _ _ _ _).1 (h.on i hi k h2) with h3 | ⟨m,_,h3⟩
     ·simp at h3
     ·exact h.rd m k h3
    ·exact h.rd m k h2
   ·exact⟨i,hi,h1⟩
  ·simp[List.getD,bI ((fu p (stO p I O)).symm▸hi)] at hk
structure Fix (p:Prog) (I O:List BV):Prop where
 li:I.length=p.l.length
 lo:O.length=p.l.length
 ii:∀i,i<p.l.length->I.getD i 0=liB p O i
 oo:∀i,i<p.l.length->O.getD i 0=orB I (nx p i) 0
 rd:∀i k,(I.getD i 0).getLsbD k=true->∃j,j<p.l.length/\(rB p j).getLsbD k=true
theorem Inv.fix {p:Prog} {I O:List BV} (h:Inv p I O) (he:stI p (stO p I O)=I):Fix p I (stO p I O) where
 li:=h.li
 lo:=yN _ _ _
 ii:=fun i hi=>by conv=>lhs;rw[<-he]
                  exact vU hi
 oo:=fun i hi=>by
  rw[vT hi]
  refine BitVec.eq_of_getLsbD_eq fun k hk=> ?_
  rw[aJ,eC,eC]
  constructor
  ·rintro (h1 | h1)
   ·exact(eC _ _ _ _).1 (h.on i hi k h1)
   ·exact .inr h1
  ·rintro (h1 | h1)
   ·simp at h1
   ·exact .inr h1
 rd:=h.rd
theorem am7 {p:Prog} {n e:Int} (h:mG p n=some e):e≠0:=by
 unfold mG at h
 split at h
 ·cases h;decide
 ·split at h
  ·cases h;decide
  ·cases h
theorem wt {p:Prog}:∀(m n:Nat) {r:Int×Int},scan p m n=some r->r.2≠0
 | 0,_,_,h=>by cases h
 | m+1,n,r,h=>by
   unfold scan at h
   split at h
   ·rename_i e he
    cases h
    exact am7 he
   ·exact wt m (n+1) h
theorem wu {p:Prog}:∀(m n:Nat),scan p m n=none->∀j,j<m->mG p ((n+j:Nat):Int)=none
 | 0,_,_,j,hj=>by omega
 | m+1,n,h,j,hj=>by
   unfold scan at h
   split at h
   ·cases h
   ·rename_i he
    cases j with
    | zero=>exact he
    | succ j=>rw[show n+(j+1)=(n+1)+j by omega];exact wu m (n+1) h j (by omega)
theorem eH {p:Prog} (hl:p.l.length<=maxLen) (h:(bj p).2=0):(p.last=(p.l.length:Int)-1/\1<=p.l.length/\p.l.length<=64)/\(∀n:Nat,n<p.l.length->mG p n=none)/\((ab p.l p.last).k=4\/(ab p.l p.last).k=6):=by
 unfold bj at h
 split at h
 ·cases h
 split at h
 ·cases h
 rename_i _ c1
 have c1:(decide (0<=p.last)&&decide (p.last<=63))=true:=by simpa using c1
 split at h
 ·rename_i r hr;exact absurd h (wt _ _ hr)
 rename_i hs
 split at h
 ·rename_i hk;exact⟨zZ c1 hl,fun n hn=>by simpa using wu _ 0 hs n hn,hk⟩
 ·cases h
structure Ways (p:Prog) (m j:Nat) (ws:List (List Int)):Prop where
 snd:∀r,r∈ws->∃i k:Nat,(i<m/\k∈nx p i\/i=m/\k∈(nx p m).take j)/\r=[(i:Int),(k:Int),1]
 cmp:∀i k:Nat,(i<m/\k∈nx p i\/i=m/\k∈(nx p m).take j)->[(i:Int),(k:Int),1]∈ws
 len:ws.length<=2*m+j
theorem Ways.nil (p:Prog):Ways p 0 0 []:=⟨fun r h=>by simp at h,fun i k h=>by simp at h,Nat.le_refl _⟩
theorem Ways.out {p:Prog} {m j:Nat} {ws:List (List Int)} (h:Ways p m j ws) (hj:j=(nx p m).length) (h2:(nx p m).length<=2):Ways p (m+1) 0 ws where
 snd:=fun r hr=>by
  obtain⟨i,k,h1,rfl⟩:=h.snd r hr
  refine⟨i,k,.inl ?_,rfl⟩
  rw[hj,List.take_length] at h1
  rcases h1 with⟨h3,h4⟩ | ⟨rfl,h4⟩
  ·exact⟨by omega,h4⟩
  ·exact⟨by omega,h4⟩
 cmp:=fun i k hik=>h.cmp i k (by
  rw[hj,List.take_length]
  rcases hik with⟨h3,h4⟩ | ⟨_,h4⟩
  ·rcases aX i m with h5 | h5
   ·exact .inl ⟨h5,h4⟩
   ·obtain rfl:i=m:=by omega
    exact .inr ⟨rfl,h4⟩
  ·simp at h4)
 len:=by have:=h.len;omega
theorem Ways.more {p:Prog} {m j:Nat} {ws ws':List (List Int)} {k:Nat} (h:Ways p m j ws) (hk:(nx p m)[j]? =some k) (hs:∀r,r∈ws'↔r∈ws\/r=[(m:Int),(k:Int),1]) (hl:ws'.length<=ws.length+1):Ways p m (j+1) ws':=by
 have ht:∀x,x∈(nx p m).take (j+1)↔x∈(nx p m).take j\/x=k:=fun x=>by
  rw[List.take_add_one,hk]
  simp
 refine⟨fun r hr=> ?_,fun i x hx=> ?_,by have:=h.len;omega⟩
 ·rcases(hs r).1 hr with h1 | h1
  ·obtain⟨i,x,h2,rfl⟩:=h.snd r h1
   refine⟨i,x,?_,rfl⟩
   rcases h2 with h2 | ⟨h2,h3⟩
   ·exact .inl h2
   ·exact .inr ⟨h2,(ht x).2 (.inl h3)⟩
  ·exact⟨m,k,.inr ⟨rfl,(ht k).2 (.inr rfl)⟩,h1⟩
 ·rcases hx with h1 | ⟨rfl,h1⟩
  ·exact(hs _).2 (.inl (h.cmp i x (.inl h1)))
  ·rcases(ht x).1 h1 with h2 | rfl
   ·exact(hs _).2 (.inl (h.cmp i x (.inr ⟨rfl,h2⟩)))
   ·exact(hs _).2 (.inr rfl)
theorem Ways.app {p:Prog} {m j:Nat} {ws:List (List Int)} {k:Nat} (h:Ways p m j ws) (hk:(nx p m)[j]? =some k):Ways p m (j+1) (ws++[[(m:Int),(k:Int),1]]):=
 h.more hk (fun r=>by simp) (by simp)
theorem ar8 {L:List (List Int)} {key:List Int} (h:mixI L key<(L.length:Int)):∃(i:Nat) (hi:i<L.length),mixI L key=(i:Int)/\(L[i].take key.length==key)=true:=by
 have hi:L.findIdx (fun r=>r.take key.length==key)<L.length:=by unfold mixI at h;omega
 exact⟨_,hi,rfl,List.findIdx_getElem (w:=hi)⟩
theorem Ways.put {p:Prog} {m j:Nat} {ws:List (List Int)} {k:Nat} (h:Ways p m j ws) (hk:(nx p m)[j]? =some k) (hm:mixI ws [(m:Int),(k:Int)]<(ws.length:Int)):Ways p m (j+1) (ws.set (mixI ws [(m:Int),(k:Int)]).toNat [(m:Int),(k:Int),1]):=by
 obtain⟨i,hi,he,ht⟩:=ar8 hm
 have hr:ws[i]=[(m:Int),(k:Int),1]:=by
  obtain⟨a,b,_,h2⟩:=h.snd _ (List.getElem_mem hi)
  rw[h2] at ht ⊢
  simp at ht
  simp[ht]
 have:ws.set (mixI ws [(m:Int),(k:Int)]).toNat [(m:Int),(k:Int),1]=ws:=by
  rw[he,<-hr]
  simp
 rw[this]
 refine h.more hk (fun r=>⟨.inl,fun h1=>h1.elim id fun h2=> ?_⟩) (Nat.le_succ _)
 rw[h2,<-hr]
 exact List.getElem_mem hi
structure Seen (p:Prog) (I O:List BV) (ws L V:List (List Int)):Prop where
 ex:∃(X:List BV) (un:List Nat),L=iA X/\X.length=p.l.length/\un.length+V.length=ws.length/\(∀v:Nat,v<ws.length->[(v:Int)]∈V\/v∈un)/\
  ∀i,i<p.l.length->∀k,(X.getD i 0).getLsbD k=true↔(O.getD i 0).getLsbD k=true\/∃v m:Nat,[(v:Int)]∈V/\ws[v]? =some [(i:Int),(m:Int),1]/\(I.getD m 0).getLsbD k=true
theorem Seen.init (p:Prog) (I O:List BV) (ws:List (List Int)) (hO:O.length=p.l.length):Seen p I O ws (iA O) []:=
 ⟨O,List.range ws.length,rfl,hO,by simp,fun v hv=>.inr (by simpa using hv),fun i _ k=>by simp⟩
theorem Seen.step {p:Prog} {I O:List BV} {ws L V:List (List Int)} (h:Seen p I O ws L V) {v a b:Nat} (hI:I.length=p.l.length) (hv:[(v:Int)] ∉ V) (hw:ws[v]? =some [(a:Int),(b:Int),1]) (ha:a<p.l.length) (hb:b<p.l.length):
  Seen p I O ws (st L a 0 (opI .or .i64 (gt L a 0) (gt (iA I) b 0))) (V++[[(v:Int)]]):=by
 obtain⟨X,un,rfl,hX,hl,hu,hb'⟩:=h.ex
 have hvl:v<ws.length:=(cf.1 hw).1
 have hun:v∈un:=(hu v hvl).elim (fun h=>(hv h).elim) id
 rw[nH (hX▸ha),nH (hI▸hb),an5,lM,lM,aaY (hX▸ha)]
 refine⟨X.set a (X.getD a 0 ||| I.getD b 0),un.erase v,rfl,by simp[hX],?_,fun w hwl=> ?_,fun i hi k=> ?_⟩
 ·have:=List.length_erase_of_mem hun
  have:0<un.length:=List.length_pos_of_mem hun
  simp
  omega
 ·rcases hu w hwl with h1 | h1
  ·exact .inl (by simp[h1])
  ·by_cases hwv:w=v
   ·exact .inl (by simp[hwv])
   ·exact .inr ((List.mem_erase_of_ne hwv).2 h1)
 ·have hset:(X.set a (X.getD a 0 ||| I.getD b 0)).getD i 0=if a=i then X.getD a 0 ||| I.getD b 0 else X.getD i 0:=by
   simp only[cW,di]
   split
   ·simp[hX,ha]
   ·rfl
  rw[hset]
  by_cases hai:a=i
  ·subst hai
   rw[if_pos rfl,BitVec.getLsbD_or,bH,hb' a ha k]
   constructor
   ·rintro ((h1 | ⟨w,m,h1,h2,h3⟩) | h1)
    ·exact .inl h1
    ·exact .inr ⟨w,m,by simp[h1],h2,h3⟩
    ·exact .inr ⟨v,b,by simp,hw,h1⟩
   ·rintro (h1 | ⟨w,m,h1,h2,h3⟩)
    ·exact .inl (.inl h1)
    ·rcases List.mem_append.1 h1 with h4 | h4
     ·exact .inl (.inr ⟨w,m,h4,h2,h3⟩)
     ·have:w=v:=by
       have:[(w:Int)]=[(v:Int)]:=by simpa using h4
       injection this with this
       exact Int.ofNat_inj.1 this
      rw[this,hw] at h2
      have:b=m:=by
       have h2:=Option.some.inj h2
       simp only[thm5] at h2
       exact Int.ofNat_inj.1 h2.2.1
      exact .inr (this▸h3)
  ·rw[if_neg hai,hb' i hi k]
   constructor
   ·rintro (h1 | ⟨w,m,h1,h2,h3⟩)
    ·exact .inl h1
    ·exact .inr ⟨w,m,by simp[h1],h2,h3⟩
   ·rintro (h1 | ⟨w,m,h1,h2,h3⟩)
    ·exact .inl h1
    ·rcases List.mem_append.1 h1 with h4 | h4
     ·exact .inr ⟨w,m,h4,h2,h3⟩
     ·have:w=v:=by
       have:[(w:Int)]=[(v:Int)]:=by simpa using h4
       injection this with this
       exact Int.ofNat_inj.1 this
      rw[this,hw] at h2
      have:a=i/\b=m:=by
       have h2:=Option.some.inj h2
       simp only[thm5] at h2
       exact⟨Int.ofNat_inj.1 h2.1,Int.ofNat_inj.1 h2.2.1⟩
      exact(hai this.1).elim
theorem Seen.len {p:Prog} {I O:List BV} {ws L V:List (List Int)} (h:Seen p I O ws L V):L.length=p.l.length:=by
 obtain⟨X,un,rfl,hX,_⟩:=h.ex
 rw[abO,hX]
theorem Seen.done {p:Prog} {I O:List BV} {ws L V:List (List Int)} (h:Seen p I O ws L V) (hw:Ways p p.l.length 0 ws) (he:¬V.length<ws.length):L=iA (stO p I O):=by
 obtain⟨X,un,rfl,hX,hl,hu,hb⟩:=h.ex
 obtain rfl:un=[]:=List.eq_nil_of_length_eq_zero (by omega)
 congr 1
 refine List.ext_getElem (by rw[hX,yN]) fun i h1 h2=> ?_
 have hi:i<p.l.length:=hX▸h1
 have e1:X[i]=X.getD i 0:=by simp[h1]
 have e2:(stO p I O)[i]=(stO p I O).getD i 0:=by simp[h2]
 rw[e1,e2,vT hi]
 refine BitVec.eq_of_getLsbD_eq fun k hk=> ?_
 rw[aJ,hb i hi k,eC]
 constructor
 ·rintro (h3 | ⟨v,m,h3,h4,h5⟩)
  ·exact .inl h3
  ·obtain⟨a,c,h6,h7⟩:=hw.snd _ (fq h4)
   simp only[thm5,Int.natCast_inj,and_true] at h7
   obtain⟨rfl,rfl⟩:=h7
   rcases h6 with⟨_,h6⟩ | ⟨_,h6⟩
   ·exact .inr ⟨m,h6,h5⟩
   ·simp at h6
 ·rintro (h3 | ⟨m,h3,h5⟩)
  ·exact .inl h3
  ·obtain⟨v,hv,h4⟩:=List.getElem_of_mem (hw.cmp i m (.inl ⟨hi,h3⟩))
   exact .inr ⟨v,m,(hu v hv).elim id (fun h=>by simp at h),by rw[thm6 hv,h4],h5⟩
structure Wrote (p:Prog) (I O:List BV) (m:Nat) (b:Bool) (L:List (List Int)):Prop where
 ll:L=iA ((stI p O).take m++I.drop m)
 bb:b=true↔(stI p O).take m≠I.take m
theorem Wrote.init (p:Prog) (I O:List BV):Wrote p I O 0 false (iA I):=⟨by simp,by simp⟩
theorem Wrote.len {p:Prog} {I O:List BV} {m:Nat} {b:Bool} {L:List (List Int)} (h:Wrote p I O m b L) (hI:I.length=p.l.length) (hm:m<=p.l.length):L.length=p.l.length:=by
 rw[h.ll,abO]
 simp[fu,hI]
 omega
theorem Wrote.old {p:Prog} {I O:List BV} {m:Nat} {b:Bool} {L:List (List Int)} (h:Wrote p I O m b L) (hI:I.length=p.l.length) (hm:m<p.l.length):gt L m 0=(I.getD m 0).toInt:=by
 rw[h.ll,nH (by simp[fu,hI];omega)]
 congr 1
 simp[cW,List.getElem?_append,fu,Nat.min_eq_left (Nat.le_of_lt hm)]
theorem Wrote.step {p:Prog} {I O:List BV} {m:Nat} {b:Bool} {L:List (List Int)} (h:Wrote p I O m b L) (hI:I.length=p.l.length) (hO:O.length=p.l.length) (hm:m<p.l.length):
  Wrote p I O (m+1) (b ||!((opI .or .i64 (opI .andNot .i64 (gt (iA O) m 0) (vwr (ab p.l m))) (vrd (ab p.l m)))==gt L m 0)) (st L m 0 (opI .or .i64 (opI .andNot .i64 (gt (iA O) m 0) (vwr (ab p.l m))) (vrd (ab p.l m)))):=by
 have hx:opI .or .i64 (opI .andNot .i64 (gt (iA O) m 0) (vwr (ab p.l m))) (vrd (ab p.l m))=((stI p O).getD m 0).toInt:=by
  rw[nH (hO▸hm),an5,adr,lM,lM,vU hm]
  rfl
 rw[hx,h.old hI hm]
 have h1:(stI p O)[m]? =some ((stI p O).getD m 0):=by simp[thm6 (show m<(stI p O).length by rw[fu];exact hm)]
 have h2:I[m]? =some (I.getD m 0):=by simp[thm6 (show m<I.length by rw[hI];exact hm)]
 constructor
 ·rw[h.ll,aaY (by simp[fu,hI];omega)]
  congr 1
  refine List.ext_getElem? fun i=> ?_
  rw[di]
  simp only[List.getElem?_append,eV,List.length_take,List.length_drop,fu,hI,List.getElem?_take,List.getElem?_drop,Nat.min_eq_left (Nat.le_of_lt hm),Nat.min_eq_left (show m+1<=p.l.length from hm)]
  by_cases h3:m=i
  ·subst h3
   rw[if_pos rfl,if_pos (by omega),if_pos (by omega),if_pos (by omega),h1]
  ·rw[if_neg h3]
   by_cases h4:i<m
   ·rw[if_pos h4,if_pos h4,if_pos (by omega),if_pos (by omega)]
   ·rw[if_neg h4,if_neg (by omega)]
    congr 1
    omega
 ·rw[List.take_add_one,List.take_add_one,h1,h2]
  simp only[bH,h.bb,Option.toList_some,Bool.not_eq_true',beq_eq_false_iff_ne]
  constructor
  ·rintro (h3 | h3) he
   ·exact h3 (List.append_inj_left' he rfl)
   ·have:=List.append_inj_right' he rfl
    simp only[thm5,and_true] at this
    exact h3 (by rw[this])
  ·intro hn
   by_cases h3:(stI p O).take m=I.take m
   ·right
    intro h4
    exact hn (by rw[h3,BitVec.eq_of_toInt_eq h4])
   ·exact .inl h3
theorem Wrote.done {p:Prog} {I O:List BV} {m:Nat} {b:Bool} {L:List (List Int)} (h:Wrote p I O m b L) (hI:I.length=p.l.length) (hm:m=p.l.length):L=iA (stI p O)/\(b=true↔stI p O≠I):=by
 have h1:=h.ll
 have h2:=h.bb
 rw[hm,List.take_of_length_le (by rw[fu];exact Nat.le_refl _),List.take_of_length_le (by rw[hI];exact Nat.le_refl _)] at h2
 rw[hm,List.take_of_length_le (by rw[fu];exact Nat.le_refl _),List.drop_of_length_le (by rw[hI];exact Nat.le_refl _),List.append_nil] at h1
 exact⟨h1,h2⟩
def arJ (k:Prog->List Dt->List Dt):List Dt->List Dt
 | .z c::.l l::r=>k ⟨c,l⟩ r
 | _=>[]
def noL:List Dt->Bool
 | []=>true
 | .z _::r=>noL r
 | _=>false
theorem aiA {L:List (List Int)}:∀{r:List Dt},noL r=true->Dt.l L ∉ r
 | [],_=>by simp
 | .z _::r,h=>by simp[aiA (r:=r) h]
 | .l _::r,h=>by simp[noL] at h
def dg (s:Sta):List Int:=[s.r0.k,s.r1.k,s.r2.k,s.r3.k,s.r4.k,s.r5.k,s.r6.k,s.r7.k,s.r8.k,s.r9.k,s.r10.k]
def tnth (s:Sta) (d:Int):Ty:=⟨[s.r0.k,s.r1.k,s.r2.k,s.r3.k,s.r4.k,s.r5.k,s.r6.k,s.r7.k,s.r8.k,s.r9.k,s.r10.k].getD d.toNat 0,[s.r0.ul,s.r1.ul,s.r2.ul,s.r3.ul,s.r4.ul,s.r5.ul,s.r6.ul,s.r7.ul,s.r8.ul,s.r9.ul,s.r10.ul].getD d.toNat 0,[s.r0.uh,s.r1.uh,s.r2.uh,s.r3.uh,s.r4.uh,s.r5.uh,s.r6.uh,s.r7.uh,s.r8.uh,s.r9.uh,s.r10.uh].getD d.toNat 0,[s.r0.sl,s.r1.sl,s.r2.sl,s.r3.sl,s.r4.sl,s.r5.sl,s.r6.sl,s.r7.sl,s.r8.sl,s.r9.sl,s.r10.sl].getD d.toNat 0,[s.r0.sh,s.r1.sh,s.r2.sh,s.r3.sh,s.r4.sh,s.r5.sh,s.r6.sh,s.r7.sh,s.r8.sh,s.r9.sh,s.r10.sh].getD d.toNat 0,[s.r0.v,s.r1.v,s.r2.v,s.r3.v,s.r4.v,s.r5.v,s.r6.v,s.r7.v,s.r8.v,s.r9.v,s.r10.v].getD d.toNat 0,[s.r0.m,s.r1.m,s.r2.m,s.r3.m,s.r4.m,s.r5.m,s.r6.m,s.r7.m,s.r8.m,s.r9.m,s.r10.m].getD d.toNat 0,[s.r0.lo,s.r1.lo,s.r2.lo,s.r3.lo,s.r4.lo,s.r5.lo,s.r6.lo,s.r7.lo,s.r8.lo,s.r9.lo,s.r10.lo].getD d.toNat 0,[s.r0.hi,s.r1.hi,s.r2.hi,s.r3.hi,s.r4.hi,s.r5.hi,s.r6.hi,s.r7.hi,s.r8.hi,s.r9.hi,s.r10.hi].getD d.toNat 0⟩
def tite (c:Bool) (a b:Ty):Ty:=⟨if c=true then a.k else b.k,if c=true then a.ul else b.ul,if c=true then a.uh else b.uh,if c=true then a.sl else b.sl,if c=true then a.sh else b.sh,if c=true then a.v else b.v,if c=true then a.m else b.m,if c=true then a.lo else b.lo,if c=true then a.hi else b.hi⟩
def sreg (s:Sta) (d:Int) (t:Ty):Sta:=⟨tite (d==0) t s.r0,tite (d==1) t s.r1,tite (d==2) t s.r2,tite (d==3) t s.r3,tite (d==4) t s.r4,tite (d==5) t s.r5,tite (d==6) t s.r6,tite (d==7) t s.r7,tite (d==8) t s.r8,tite (d==9) t s.r9,tite (d==10) t s.r10,s.s0,s.s1,s.s2,s.s3,s.s4,s.s5,s.s6,s.s7⟩
def tyL (t:Ty) (r:List Int):List Int:=t.k::t.ul::t.uh::t.sl::t.sh::t.v::t.m::t.lo::t.hi::r
def staL (s:Sta):List Int:=tyL s.r0 (tyL s.r1 (tyL s.r2 (tyL s.r3 (tyL s.r4 (tyL s.r5 (tyL s.r6 (tyL s.r7 (tyL s.r8 (tyL s.r9 (tyL s.r10 (tyL s.s0 (tyL s.s1 (tyL s.s2 (tyL s.s3 (tyL s.s4 (tyL s.s5 (tyL s.s6 (tyL s.s7 ([])))))))))))))))))))
def kp (s:Sta) (n:Nat):Bool:=(List.range 11).any fun k=>n.testBit k&&(dg s).getD k 0==0
def bl (x:Ins) (s:Sta):Ty:=if x.br=true then tnth s x.s else tsc (vone (IntKind.u64.wrap x.imm))
theorem jc {p:Prog} {i:Int} (hl:p.l.length<=maxLen) (h:(bj p).2=0) (h0:0<=i) (h1:i<(p.l.length:Int)):imay (ab p.l i)=true:=by
 obtain⟨n,rfl⟩:=ku h0
 have q:=(eH hl h).2.1 n (by omega)
 cases e:imay (ab p.l (n:Int)) with
 | true=>rfl
 | false=>rw[yq e] at q;cases q
theorem zV:∀n,n<2048->0<n->Lib.ctz 64 n<11/\n.testBit (Lib.ctz 64 n)=true/\n &&& (n-1)<n/\opI .and .i64 (n:Int) (opI .sub .i64 (n:Int) 1)=((n &&& (n-1):Nat):Int)/\IntKind.u64.wrap (n:Int)=(n:Int)/\
  ∀k,k<11->(n &&& (n-1)).testBit k=(n.testBit k &&!(k==Lib.ctz 64 n)):=by decide +kernel
structure UInv (s:Sta) (R m:Nat):Prop where
 lt:m<2048
 sub:∀k,k<11->m.testBit k=true->R.testBit k=true
 set:∀k,k<11->R.testBit k=true->m.testBit k=false->(dg s).getD k 0≠0
theorem UInv.init {s:Sta} {R:Nat} (h:R<2048):UInv s R R:=⟨h,fun _ _ h=>h,fun k _ h1 h2=>by rw[h1] at h2;cases h2⟩
theorem UInv.next {s:Sta} {R m:Nat} (h:UInv s R m) (hm:0<m) (hk:((dg s).getD (tzI (IntKind.u64.wrap (m:Int))).toNat 0==0)=false):
  ∃m':Nat,opI .and .i64 (m:Int) (opI .sub .i64 (m:Int) 1)=(m':Int)/\UInv s R m'/\m'<m:=by
 obtain⟨b1,b2,b3,b4,b5,b6⟩:=zV m h.lt hm
 rw[b5] at hk
 have hk:=neI hk
 refine⟨m &&& (m-1),b4,⟨Nat.lt_trans b3 h.lt,fun k k1 k2=>h.sub k k1 ?_,fun k k1 k2 k3=> ?_⟩,b3⟩
 ·rw[b6 k k1,thm0] at k2;exact k2.1
 ·rw[b6 k k1] at k3
  cases e:m.testBit k with
  | false=>exact h.set k k1 k2 e
  | true=>
    rw[e] at k3
    have:k=Lib.ctz 64 m:=by simpa using k3
    rw[this];exact hk
theorem UInv.bad {s:Sta} {R m:Nat} (h:UInv s R m) (hm:0<m) (hk:((dg s).getD (tzI (IntKind.u64.wrap (m:Int))).toNat 0==0)=true):kp s R=true:=by
 obtain⟨b1,b2,b3,b4,b5,b6⟩:=zV m h.lt hm
 rw[b5] at hk
 unfold kp
 rw[List.any_eq_true]
 refine⟨Lib.ctz 64 m,List.mem_range.2 b1,?_⟩
 rw[h.sub _ b1 b2]
 exact hk
theorem UInv.good {s:Sta} {R:Nat} (h:UInv s R 0):kp s R=false:=by
 unfold kp
 rw[List.any_eq_false]
 intro k hk
 have k1:=List.mem_range.1 hk
 cases e:R.testBit k with
 | false=>simp
 | true=>
   have:=h.set k k1 e (Nat.zero_testBit k)
   simpa using this
theorem asU {m:Nat} (hm:0<m) (h:m<2048):0<=tzI (IntKind.u64.wrap (m:Int))/\tzI (IntKind.u64.wrap (m:Int))<11:=by
 obtain⟨b1,_,_,_,b5,_⟩:=zV m h hm
 rw[b5]
 unfold tzI
 rw[dj]
 omega
def tyAt (T:List (List Int)) (i:Int) (o:Nat):Ty:=⟨gt T i o,gt T i (o+1),gt T i (o+2),gt T i (o+3),gt T i (o+4),gt T i (o+5),gt T i (o+6),gt T i (o+7),gt T i (o+8)⟩
def ax (T:List (List Int)) (i:Int):Sta:=⟨tyAt T i 1,tyAt T i 10,tyAt T i 19,tyAt T i 28,tyAt T i 37,tyAt T i 46,tyAt T i 55,tyAt T i 64,tyAt T i 73,tyAt T i 82,tyAt T i 91,tyAt T i 100,tyAt T i 109,tyAt T i 118,tyAt T i 127,tyAt T i 136,tyAt T i 145,tyAt T i 154,tyAt T i 163⟩
def alo (t:Ty) (x:Ins):Int:=opI .add .i64 t.lo x.off
def ahi (t:Ty) (x:Ins):Int:=opI .add .i64 t.hi x.off
def vld (x:Ins) (s:Sta) (t:Ty):Sta×Int:=
 if t.k=3 then(sreg (sreg s x.d (tsc (vbyt x.sz))) x.d (od (sreg s x.d (tsc (vbyt x.sz))) (alo t x) (ahi t x) x.sz),sC (sreg s x.d (tsc (vbyt x.sz))) (alo t x) (ahi t x) x.sz)
 else(sreg s x.d (tsc (vbyt x.sz)),0)
def vsv (x:Ins) (s:Sta) (t:Ty):Sta×Int:=
 if t.k=3 then(gV s (alo t x) (ahi t x) x.sz (tnth s x.s),oa s (alo t x) (ahi t x) x.sz (tnth s x.s)) else(s,0)
def asS (s:Sta):Sta:={s with r0:=tscal,r1:=tnil,r2:=tnil,r3:=tnil,r4:=tnil,r5:=tnil}
def vmid (p:Prog) (x:Ins) (s:Sta):Sta×Int:=
 if x.k=0 then(sreg s x.d (valu x (tnth s x.d) (bl x s)),0)
 else if x.k=1 then(if aB p.ctx (tnth s x.s) x.off x.sz=true then vld x s (tnth s x.s) else(s,111))
 else if x.k=2 then(if aB p.ctx (tnth s x.d) x.off x.sz=true then vsv x s (tnth s x.d) else(s,111))
 else if x.k=5 then(asS s,0)
 else(s,0)
def vway (s:Sta) (d:Int) (a b:Ty) (tells:Bool) (go cc:Int) (known:Bool):List (Int×Sta):=
 if(tells&&known)=true then(if vgok cc a.s b.s=true then[(go,sreg s d (tsc (vgiv cc a.s b.s)))] else[]) else[(go,s)]
def eU (x:Ins) (s:Sta) (b:Ty):Bool:=x.k==3&&((tnth s x.d).k==1&&b.k==1)
def dp (i:Int) (x:Ins) (s:Sta) (b:Ty):List (Int×Sta):=if x.k=4\/x.k=6 then[] else vway s x.d (tnth s x.d) b (eU x s b) (opI .add .i64 i 1) (gR x.op) (eO x.op)
def fk (i:Int) (x:Ins) (s:Sta) (b:Ty):List (Int×Sta):=if(itgt i x).2=true then vway s x.d (tnth s x.d) b (eU x s b) (itgt i x).1 x.op true else[]
def aK (p:Prog) (i:Int) (s:Sta):List (Int×Sta)×Int:=
 if kp s (vrd (ab p.l i)).toNat=true then([],110)
 else if(vmid p (ab p.l i) s).2=0 then(dp i (ab p.l i) (vmid p (ab p.l i) s).1 (bl (ab p.l i) s)++fk i (ab p.l i) (vmid p (ab p.l i) s).1 (bl (ab p.l i) s),0)
 else([],(vmid p (ab p.l i) s).2)
def bn (p:Prog) (i:Int) (s:Sta):List (List Int)×Int:=
 if(bj p).2=0 then(if((0<=i/\i<p.l.length)/\smay s=true) then((aK p i s).1.map fun q=>q.1::staL q.2,(aK p i s).2) else([],2)) else([],(bj p).2)
structure VR where
 w:Int
 T:List (List Int)
 g:List (List Int)
def vbit (w n:Int):Int:=opI .or .u64 w (opI .shl .u64 1 n)
def vjn (r:VR) (q:Int×Sta):Sta:=jF (decide (8<gt r.g q.1 0)) (ax r.T q.1) q.2
def vput (r:VR) (q:Int×Sta):VR:=
 if gt r.T q.1 0=1 then(if staL (vjn r q)=staL (ax r.T q.1) then r else⟨vbit r.w q.1,r.T.set q.1.toNat (1::staL (vjn r q)),st r.g q.1 0 (opI .add .i64 (gt r.g q.1 0) 1)⟩)
 else⟨vbit r.w q.1,r.T.set q.1.toNat (1::staL q.2),r.g⟩
abbrev VRes:=List (List Int)×List (List Int)×Int×Int
def nl (p:Prog) (T:List (List Int)):VRes:=
 ((List.range p.l.length).map fun(k:Nat)=>[b2i (gt T k 0==1)],(List.range p.l.length).map fun(k:Nat)=>if gt T k 0=1 then staL (ax T k) else List.replicate 171 0,0,0)
def lV (r:VR):VR:=⟨opI .and .u64 r.w (opI .sub .u64 r.w 1),r.T,r.g⟩
def fl (p:Prog):Nat->Int->VR->VRes
 | 0,last,r=>if r.w=0 then nl p r.T else([],[],last,112)
 | n+1,last,r=>if r.w=0 then nl p r.T else
   if(aK p (tzI r.w) (ax r.T (tzI r.w))).2=0 then fl p n (tzI r.w) ((aK p (tzI r.w) (ax r.T (tzI r.w))).1.foldl vput (lV r))
   else([],[],tzI r.w,(aK p (tzI r.w) (ax r.T (tzI r.w))).2)
def vini:VR:=⟨1,(List.replicate 64 (List.replicate 172 0)).set 0 (1::staL gJ),List.replicate 64 [0]⟩
def vrun (p:Prog):VRes:=if(bj p).2=0 then fl p 2000 0 vini else([],[],(bj p).1,(bj p).2)
theorem dq {p:Prog} {n:Nat} {last:Int} {r:VR} (h:r.w=0):fl p n last r=nl p r.T:=by
 cases n<;>(unfold fl;rw[if_pos h])
theorem ko {p:Prog} {n:Nat} {last:Int} {r:VR} (h:r.w≠0) (he:(aK p (tzI r.w) (ax r.T (tzI r.w))).2≠0):fl p (n+1) last r=([],[],tzI r.w,(aK p (tzI r.w) (ax r.T (tzI r.w))).2):=by
 rw[fl,if_neg h,if_neg he]
theorem iS {p:Prog} {n:Nat} {last:Int} {r:VR} (h:r.w≠0) (he:(aK p (tzI r.w) (ax r.T (tzI r.w))).2=0):fl p (n+1) last r=fl p n (tzI r.w) ((aK p (tzI r.w) (ax r.T (tzI r.w))).1.foldl vput (lV r)):=by
 rw[fl,if_neg h,if_pos he]
theorem fU {p:Prog} {last:Int} {r:VR} (h:r.w≠0):fl p 0 last r=([],[],last,112):=by
 rw[fl,if_neg h]
theorem gD {T T':List (List Int)} {n:Nat} (h:T[n]? =T'[n]?) (c:Nat):gt T n c=gt T' n c:=by
 unfold gt
 rw[dj]
 have e:∀T:List (List Int),T.getD n []=(T[n]?).getD []:=fun T=>cW
 rw[e,e,h]
theorem fX {T T':List (List Int)} {n:Nat} (h:T[n]? =T'[n]?):ax T n=ax T' n:=by
 simp only[ax,tyAt,gD h]
theorem afy {w:Int} (h0:0<=w) (h1:w<=18446744073709551615) {i:Nat} (hi:i<64):tb w i=w.toNat.testBit i:=by
 obtain⟨n,rfl⟩:=ku h0
 unfold tb
 rw[BitVec.ofInt_natCast,BitVec.getLsbD_ofNat,dj]
 simp[hi]
theorem ajx {x:Nat} (h0:0<x) (h:x<2 ^ 64):Lib.ctz 64 x<64/\x.testBit (Lib.ctz 64 x)=true/\∀j,(x &&& (x-1)).testBit j=(x.testBit j &&!(j==Lib.ctz 64 x)):=by
 obtain⟨m,hm,hk⟩:=Lib.ctzFrom_spec 64 x h0 h
 have e:Lib.ctz 64 x=Lib.ctzFrom 64 x:=if_neg (by omega)
 rw[e]
 generalize Lib.ctzFrom 64 x=c at hm hk
 have hp:0<2 ^ c:=Nat.two_pow_pos c
 have h1:x=2 ^ c*(2*m+1)+0:=by omega
 have h2:x-1=2 ^ c*(2*m)+(2 ^ c-1):=by rw[hm,Nat.mul_succ];omega
 have t1:∀j,x.testBit j=if j<c then false else(2*m+1).testBit (j-c):=fun j=>by
  rw[h1,Nat.testBit_two_pow_mul_add _ hp]
  split
  ·simp
  ·rfl
 have t2:∀j,(x-1).testBit j=if j<c then(2 ^ c-1).testBit j else(2*m).testBit (j-c):=fun j=>by
  rw[h2,Nat.testBit_two_pow_mul_add _ (by omega)]
 have b0:(2*m+1).testBit 0=true:=by simp
 have b1:(2*m).testBit 0=false:=by simp
 have bs:∀d,(2*m+1).testBit (d+1)=m.testBit d/\(2*m).testBit (d+1)=m.testBit d:=fun d=>by
  rw[Nat.testBit_succ,Nat.testBit_succ,show(2*m+1) / 2=m by omega,show 2*m / 2=m by omega]
  exact⟨rfl,rfl⟩
 refine⟨hk,by rw[t1,if_neg (Nat.lt_irrefl c),Nat.sub_self,b0],fun j=> ?_⟩
 rw[Nat.testBit_and,t1,t2]
 by_cases hj:j<c
 ·rw[if_pos hj];simp
 ·rw[if_neg hj,if_neg hj]
  by_cases hjc:j=c
  ·rw[hjc,Nat.sub_self,b0,b1];simp
  ·obtain⟨d,hd⟩:∃d,j-c=d+1:=⟨j-c-1,by omega⟩
   rw[hd,(bs d).1,(bs d).2,show(j==c)=false by simp[hjc]]
   cases m.testBit d<;>rfl
theorem acj {w:Int} (h0:0<w) (h1:w<=18446744073709551615):∃k:Nat,tzI w=(k:Int)/\k<64/\tb w k=true/\∀j,j<64->tb (opI .and .u64 w (opI .sub .u64 w 1)) j=(tb w j &&!(j==k)):=by
 obtain⟨n,rfl⟩:=ku (Int.le_of_lt h0)
 obtain⟨c1,c2,c3⟩:=ajx (x:=n) (by omega) (by omega)
 refine⟨Lib.ctz 64 n,rfl,c1,by rw[afy (by omega) h1 c1];exact c2,fun j hj=> ?_⟩
 have e:opI .sub .u64 (n:Int) 1=((n-1:Nat):Int):=by
  show IntKind.u64.wrap _=_
  rw[bf];omega
 rw[e]
 show tb (bits .and .u64 _ _) j=_
 rw[vR,afy (by omega) h1 hj,afy (by omega) (by omega) hj,<-Nat.testBit_and,dj,dj]
 exact c3 j
theorem yH {w:Int} {n:Nat} (hn:n<64) {j:Nat} (hj:j<64):tb (vbit w n) j=(tb w j||j==n):=by
 show tb (bits .or .u64 _ _) j=_
 rw[kv]
 have e:opI .shl .u64 1 (n:Int)=((2 ^ n:Nat):Int):=by
  show IntKind.u64.wrap (1*2 ^ min (n:Int).toNat 64)=_
  rw[bf,dj,Nat.min_eq_left (by omega),Int.one_mul]
  have h2:2 ^ n<2 ^ 64:=Nat.pow_lt_pow_right (by decide) hn
  have h3:((2 ^ n:Nat):Int)=(2:Int) ^ n:=Int.natCast_pow 2 n
  rw[<-h3]
  clear h3
  generalize (2:Nat) ^ n=z at h2 ⊢
  have h4:z<18446744073709551616:=h2
  omega
 rw[e]
 have h2:2 ^ n<2 ^ 64:=Nat.pow_lt_pow_right (by decide) hn
 rw[afy (Int.natCast_nonneg _) (by omega) hj,dj,Nat.testBit_two_pow]
 congr 1
 rw[aJ,aZ,db]
 exact eq_comm
structure VI (p:Prog) (r:VR):Prop where
 w:0<=r.w/\r.w<=18446744073709551615
 T:r.T.length=64
 g:r.g.length=64
 on:∀k:Nat,k<64->tb r.w k=true->k<p.l.length/\gt r.T k 0=1
theorem aja {T:List (List Int)} {n:Nat} {row:List Int} (k:Nat) (c:Nat) (hn:n<T.length):gt (T.set n row) (k:Int) c=if k=n then row.getD c 0 else gt T k c:=by
 unfold gt
 rw[dj]
 have e:∀T:List (List Int),T.getD k []=(T[k]?).getD []:=fun T=>cW
 rw[e,e]
 split
 ·rename_i e;rw[e,List.getElem?_set_self hn];rfl
 ·rename_i e;rw[List.getElem?_set_ne (fun e2=>e e2.symm)]
theorem acP (op:BinOp) (a b:Int):0<=bits op .u64 a b/\bits op .u64 a b<=18446744073709551615:=by
 have:=act op .u64 a b
 simp[inK,IntKind.min,IntKind.max,IntKind.signed,IntKind.bits] at this
 omega
theorem VI.lay {p:Prog} {r:VR} (h:VI p r) {n:Nat} (hn:n<p.l.length) (hl:p.l.length<=64) (row:List Int) (g:List (List Int)) (hg:g.length=64):VI p ⟨vbit r.w n,r.T.set n (1::row),g⟩ where
 w:=acP .or _ _
 T:=by rw[List.length_set];exact h.T
 g:=hg
 on k hk hb:=by
  rw[yH (by omega) hk,bH,db] at hb
  rw[aja k 0 (by rw[h.T];omega)]
  split
  ·rename_i e;rw[e];exact⟨hn,rfl⟩
  ·rename_i e
   exact h.on k hk (hb.resolve_right e)
theorem VI.put {p:Prog} {r:VR} (h:VI p r) {q:Int×Sta} (h0:0<=q.1/\q.1<(p.l.length:Int)) (hl:p.l.length<=64):VI p (vput r q):=by
 obtain⟨n,hn⟩:=ku h0.1
 unfold vput
 rw[hn,dj]
 split
 ·split
  ·exact h
  ·exact h.lay (by omega) hl _ _ (by rw[fH];exact h.g)
 ·exact h.lay (by omega) hl _ _ h.g
theorem VI.puts {p:Prog} (hl:p.l.length<=64):∀(l:List (Int×Sta)) {r:VR},VI p r->(∀q∈l,0<=q.1/\q.1<(p.l.length:Int))->VI p (l.foldl vput r)
 | [],r,h,_=>h
 | q::l,r,h,hq=>VI.puts hl l (h.put (hq q bD) hl) (fun x hx=>hq x (cm _ hx))
theorem VI.next {p:Prog} {r:VR} (h:VI p r) (hw:r.w≠0):VI p (lV r)/\∃k:Nat,tzI r.w=(k:Int)/\k<64/\k<p.l.length/\gt r.T k 0=1:=by
 obtain⟨k,h1,h2,h3,h4⟩:=acj (by have:=h.w;omega) h.w.2
 refine⟨⟨acP .and _ _,h.T,h.g,fun j hj hb=> ?_⟩,k,h1,h2,h.on k h2 h3⟩
 have hb:tb (opI .and .u64 r.w (opI .sub .u64 r.w 1)) j=true:=hb
 rw[h4 j hj,thm0] at hb
 exact h.on j hj hb.1
theorem VI.ini {p:Prog} (hl:1<=p.l.length):VI p vini where
 w:=by decide
 T:=by unfold vini;simp
 g:=by unfold vini;simp
 on k hk hb:=by
  have h1:tb 1 k=true:=hb
  rw[afy (by decide) (by decide) hk] at h1
  have:k=0:=by
   cases k with
   | zero=>rfl
   | succ k=>rw[show Int.toNat 1=1 from rfl,Nat.testBit_succ] at h1;simp at h1
  subst this
  exact⟨hl,rfl⟩
theorem asW {p:Prog} {i:Nat} (hl:p.l.length<=maxLen) (h:(bj p).2=0) (hi:i<p.l.length) (ht:(itgt i (ab p.l i)).2=true):0<=(itgt i (ab p.l i)).1/\(itgt i (ab p.l i)).1<(p.l.length:Int):=by
 obtain⟨⟨h1,_,_⟩,h2,_⟩:=eH hl h
 have h3:=h2 i hi
 by_cases hc:(decide (0<=(itgt i (ab p.l i)).1)&&decide ((itgt i (ab p.l i)).1<=p.last))=true
 ·simp only[thm0,aZ] at hc
  omega
 ·rw[acR (jc hl h (Int.natCast_nonneg i) (by omega)) ht (by simpa using hc)] at h3
  cases h3
theorem auq {p:Prog} {i:Nat} (hl:p.l.length<=maxLen) (h:(bj p).2=0) (hi:i<p.l.length) (h4:(ab p.l i).k≠4) (h6:(ab p.l i).k≠6):opI .add .i64 (i:Int) 1=((i+1:Nat):Int)/\i+1<p.l.length:=by
 obtain⟨⟨h1,h2,h3⟩,_,h5⟩:=eH hl h
 have hne:i+1≠p.l.length:=fun e=>by
  have:p.last=(i:Int):=by omega
  rw[this] at h5
  rcases h5 with h5 | h5
  ·exact h4 h5
  ·exact h6 h5
 refine⟨?_,by omega⟩
 show IntKind.i64.wrap _=_
 rw[aR];omega
theorem aes {s:Sta} {d go cc:Int} {a b:Ty} {t k:Bool} {q:Int×Sta} (h:q∈vway s d a b t go cc k):q.1=go:=by
 unfold vway at h
 split at h
 ·split at h
  ·rw[du.1 h]
  ·cases h
 ·rw[du.1 h]
theorem yE {p:Prog} {i:Nat} (hl:p.l.length<=maxLen) (h:(bj p).2=0) (hi:i<p.l.length) {s:Sta} {b:Ty}:∀q∈dp i (ab p.l i) s b,0<=q.1/\q.1<(p.l.length:Int):=by
 intro q hq
 unfold dp at hq
 split at hq
 ·cases hq
 ·rename_i hk
  obtain⟨e1,e2⟩:=auq hl h hi (fun e=>hk (.inl e)) (fun e=>hk (.inr e))
  rw[aes hq,e1]
  omega
theorem aep {p:Prog} {i:Nat} (hl:p.l.length<=maxLen) (h:(bj p).2=0) (hi:i<p.l.length) {s:Sta} {b:Ty}:∀q∈fk i (ab p.l i) s b,0<=q.1/\q.1<(p.l.length:Int):=by
 intro q hq
 unfold fk at hq
 split at hq
 ·rename_i ht
  rw[aes hq]
  exact asW hl h hi ht
 ·cases hq
theorem ajN {d:Int} (h0:0<=d) (h1:d<=10):∃n:Nat,bit1 d=(n:Int)/\n<2048:=by
 obtain⟨n,rfl⟩:=ku h0
 have:n<=10:=by omega
 have key:∀n,n<11->∃m:Nat,m<2048/\bit1 (n:Nat)=(m:Int):=by decide +kernel
 obtain⟨m,h2,h3⟩:=key n (by omega)
 exact⟨m,h3,h2⟩
theorem auk:∀d,d<11->∀s,s<11->∃m:Nat,m<2048/\opI .or .i64 (bit1 (d:Nat)) (bit1 (s:Nat))=(m:Int):=by decide +kernel
theorem aul:∀d,d<11->∃m:Nat,m<2048/\opI .or .i64 (bit1 (d:Nat)) 0=(m:Int):=by decide +kernel
theorem asD:∀a,a<6->∃m:Nat,m<2048/\opI .sub .i64 (opI .shl .i64 1 (opI .add .i64 (a:Nat) 1)) 2=(m:Int):=by decide +kernel
theorem anl {x:Ins} (h:imay x=true):∃R:Nat,vrd x=(R:Int)/\R<2048:=by
 have b:=nb h
 obtain⟨d,hd⟩:∃d:Nat,x.d=d:=⟨x.d.toNat,by omega⟩
 obtain⟨s,hs⟩:∃s:Nat,x.s=s:=⟨x.s.toNat,by omega⟩
 have two:∃m:Nat,opI .or .i64 (bit1 x.d) (if x.br=true then bit1 x.s else 0)=(m:Int)/\m<2048:=by
  rw[hd,hs]
  split
  ·obtain⟨m,h1,h2⟩:=auk d (by omega) s (by omega);exact⟨m,h2,h1⟩
  ·obtain⟨m,h1,h2⟩:=aul d (by omega);exact⟨m,h2,h1⟩
 unfold vrd
 rw[if_pos h]
 split
 ·split
  ·split
   ·exact ajN b.2.2.1 b.2.2.2.1
   ·exact⟨0,rfl,by decide⟩
  ·exact two
 split
 ·exact ajN b.2.2.1 b.2.2.2.1
 split
 ·rw[hd,hs]
  obtain⟨m,h1,h2⟩:=auk d (by omega) s (by omega)
  exact⟨m,h2,h1⟩
 split
 ·exact two
 split
 ·have:=lH x.imm
  obtain⟨a,ha⟩:∃a:Nat,uI x.imm=a:=⟨(uI x.imm).toNat,by omega⟩
  rw[ha]
  obtain⟨m,h1,h2⟩:=asD a (by omega)
  exact⟨m,h2,h1⟩
 split
 ·exact⟨1,rfl,by decide⟩
 ·exact⟨0,rfl,by decide⟩
theorem ns {p:Prog} {i:Nat} (hl:p.l.length<=maxLen) (h:(bj p).2=0) (hi:i<p.l.length) {s:Sta}:∀q∈(aK p i s).1,0<=q.1/\q.1<(p.l.length:Int):=by
 intro q hq
 unfold aK at hq
 split at hq
 ·cases hq
 ·split at hq
  ·rcases List.mem_append.1 hq with hq | hq
   ·exact yE hl h hi q hq
   ·exact aep hl h hi q hq
  ·cases hq
theorem aex {p:Prog}:∀(n:Nat) (last:Int) (r:VR),(fl p n last r).2.2.2=0->(fl p n last r).1.length=p.l.length/\(fl p n last r).2.1.length=p.l.length:=by
 have hd:∀T,(nl p T).1.length=p.l.length/\(nl p T).2.1.length=p.l.length:=fun T=>by simp[nl]
 intro n
 induction n with
 | zero=>
   intro last r h
   by_cases hw:r.w=0
   ·rw[dq hw];exact hd _
   ·rw[fU hw] at h;cases h
 | succ n ih=>
   intro last r h
   by_cases hw:r.w=0
   ·rw[dq hw];exact hd _
   ·by_cases he:(aK p (tzI r.w) (ax r.T (tzI r.w))).2=0
    ·rw[iS hw he] at h ⊢
     exact ih _ _ h
    ·rw[ko hw he] at h
     exact absurd h he
theorem akf {p:Prog} (h:(vrun p).2.2.2=0):(vrun p).1.length=p.l.length/\(vrun p).2.1.length=p.l.length:=by
 by_cases hk:(bj p).2=0
 ·unfold vrun at h ⊢
  rw[if_pos hk] at h ⊢
  exact aex _ _ _ h
 ·unfold vrun at h
  rw[if_neg hk] at h
  exact absurd h hk
theorem afu:tise tscal=true:=by decide
theorem akj:tok tscal=true:=by decide
theorem afr:tset tscal=true:=by decide
theorem aiR {a b:Kn} (_:dm a b=true):kmay (gA a b)=true:=by
 unfold gA;split<;>first | exact xQ _ _ | exact amE
theorem akh {a:Sc} (h1:vs1 a=true) (h2:vs2 a=true):vmay (vst a)=true:=by
 unfold vmay
 rw[thm0]
 exact⟨(aks h1).2,aiR h2⟩
theorem gT {a:Sc}:vmay (vnar a)=true:=by
 unfold vnar
 split
 ·rename_i h
  unfold vnok at h
  simp only[thm0] at h
  exact akh h.2.2.2.1 h.2.2.2.2
 ·decide
theorem apA {t:Ty} (h:tok t=true) (hk:t.k=1):vmay t.s=true:=by
 unfold tok at h;rw[if_neg (by omega),if_pos hk,thm0] at h;exact h.1
theorem akk {t:Ty} (h:tok t=true) (hk:t.k=2\/t.k=3):cX t=true/\t.lo<=t.hi /\ -1048576<=t.lo/\t.hi<=1048576:=by
 unfold tok at h;rw[if_neg (by omega),if_neg (by omega),if_pos hk] at h
 simp only[thm0,aZ] at h;exact h
theorem aev {w:Bool} {a b:Sc}:vmay (if w=true then vwid a b else dr a b)=true:=by
 cases w with
 | true=>rw[if_pos rfl];unfold vwid;split;exact gT;decide
 | false=>rw[if_neg (by simp)];unfold dr;split;exact gT;decide
theorem lohi {w:Bool} {a b:Ty} (ha:a.lo<=a.hi /\ -1048576<=a.lo/\a.hi<=1048576) (hb:b.lo<=b.hi /\ -1048576<=b.lo/\b.hi<=1048576):tlo w a b<=a.lo/\tlo w a b<=b.lo/\a.hi<=thi w a b/\b.hi<=thi w a b /\ -1048576<=tlo w a b/\thi w a b<=1048576:=by
 unfold tlo thi
 split<;>split<;>omega
theorem aaQ {w:Bool} {a b:Ty} (ha:tok a=true) (hb:tok b=true):tok (cA w a b)=true:=by
 unfold cA dl
 split
 ·rfl
 split
 ·exact akj
 rename_i h0 h1
 have h1:a.k=b.k:=Classical.not_not.1 h1
 split
 ·rename_i hk
  show tok (ty 1 _ 0 0)=true
  unfold tok
  rw[if_neg (by show¬(1:Int)=0;omega),if_pos (show(ty 1 _ 0 0).k=1 from rfl)]
  rw[thm0]
  exact⟨aev,rfl⟩
 ·rename_i hk
  have hk2:a.k=2\/a.k=3:=by
   rcases vO ha with h | h | h | h
   ·exact absurd (.inl h) h0
   ·exact absurd h hk
   ·exact .inl h
   ·exact .inr h
  have pa:=(akk ha hk2).2;have pb:=(akk hb (h1▸hk2)).2
  have q:=lohi (w:=w) pa pb
  unfold tok
  rw[if_neg (by show¬a.k=0;omega),if_neg (by show¬a.k=1;omega),if_pos hk2]
  simp only[cX,thm0,aZ]
  exact⟨by decide,by show tlo w a b<=thi w a b;omega,q.2.2.2.2.1,q.2.2.2.2.2⟩
theorem dF {w:Bool} {a b:Ty} (ha:tset a=true) (hb:tset b=true):tset (cA w a b)=true:=by
 unfold tset at ha hb
 rw[thm0] at ha hb
 have h0:(a.k==0)=false:=by simpa using ha.2
 have h1:(b.k==0)=false:=by simpa using hb.2
 refine da ?_ (aaQ ha.1 hb.1)
 unfold cA
 cases h2:a.k==b.k with
 | false=>rw[apB h0 h1 h2];rfl
 | true=>
   cases h3:a.k==1 with
   | true=>rw[tj_1 h0 h1 h2 h3];exact h0
   | false=>rw[tj_p h0 h1 h2 h3];exact h0
structure Sta.wfs (a:Sta):Prop where
 r0:a.r0.s.wf
 r1:a.r1.s.wf
 r2:a.r2.s.wf
 r3:a.r3.s.wf
 r4:a.r4.s.wf
 r5:a.r5.s.wf
 r6:a.r6.s.wf
 r7:a.r7.s.wf
 r8:a.r8.s.wf
 r9:a.r9.s.wf
 r10:a.r10.s.wf
 s0:a.s0.s.wf
 s1:a.s1.s.wf
 s2:a.s2.s.wf
 s3:a.s3.s.wf
 s4:a.s4.s.wf
 s5:a.s5.s.wf
 s6:a.s6.s.wf
 s7:a.s7.s.wf
theorem aka {op:Int} {a b:Sc} (wA:a.wf) (wB:b.wf):(dt op a b).wf:=by
 unfold dt vcap
 have w1:=aen dN
 split
 ·exact w1
 ·split
  ·split
   ·split
    ·exact aeo wA.r (by rw[asP];exact aem (qk _ _).1 (qk _ _).2)
    ·exact w1
   ·exact w1
  ·split
   ·exact aeo wA.r wB.r
   ·exact w1
theorem yC {v:Int} (hv:0<=v/\v<=18446744073709551615):(vone v).wf:=nj (aem hv.1 hv.2) (yD hv)
theorem aaI {v:Int} (hv:0<=v/\v<=18446744073709551615):vhas (vone v) v=true:=nR (a:=vone v) am3 (amF hv)
def tys_VaB:List (Nat×TI):=[(2,tiq2),
 (3,tiq3),
 (37,gP),
 (42,fF),
 (44,gO),
 (46,kt),
 (48,akp)]
theorem afg:(tys_VaB.all fun p=>ckTI Tryz.prog p.1 p.2)=true:=by kernel_rfl
theorem vF:(tys_VaB.all fun p=>!p.2.eqok)=true:=by kernel_rfl
theorem aeU:(tys_VaB.all fun p=>!p.2.keyok)=true:=by kernel_rfl
theorem bC:∀t i,(t,i)∈tys_VaB->TIok Tryz.prog t i:=by
 intro t i h
 refine bB (cz (f:=ckTI Tryz.prog) afg h) (fun he=> ?_) (fun he=> ?_) (fun he=> ?_)
 ·have h1:=thm7.1 vF (t,i) h
  simp[he] at h1
 ·have h1:=thm7.1 vF (t,i) h
  simp[he] at h1
 ·have h1:=thm7.1 aeU (t,i) h
  simp[he] at h1
def zm (key:Nat):Sm:=⟨203,key,[.agg kRg],[.agg kKn],false⟩
def yU (a:Rg):List Dt:=[.z ((kcom a).v),.z ((kcom a).m)]
def oY:List Dt->List Dt
 | [.z x0,.z x1,.z x2,.z x3]=>yU ⟨x0,x1,x2,x3⟩
 | _=>[]
def ao7:E:=(.bin .sub .u64 (.bin .shl .u64 (.lit 1) (.bin .sub .i64 (.lit 64) (.var 4))) (.lit 1))
def sT_vcom:Tr:=
(.call 0 [.int .i64] (.cons (.bin .xor .u64 (.var 0) (.var 1)) .nil) 4
(.br (.lt (.lit 0) (.var 4))
(.br (.lt (.bin .sub .i64 (.lit 64) (.var 4)) (.lit 0))
.panic
(.leaf (.cons (.bin .andNot .u64 (.var 0) ao7) (.cons ao7 .nil))))
(.leaf (.cons (.bin .andNot .u64 (.var 0) (.lit 18446744073709551615)) (.cons (.lit 18446744073709551615) .nil)))))
def agS:Spec:={F:=fun k=>match k with | 0=>xh | _=>fun _=>[],pre:=fun _ _=>True}
theorem aqK:ap tys_VaB [adh 0] [] [] [] 200 Tryz.f203 [.agg kRg] [.agg kKn] false [.int .u64,.int .u64,.int .i64,.int .i64] sT_vcom:=⟨by kernel_rfl,by kernel_rfl,by kernel_rfl⟩
def ae:=And.intro Kn.eta (And.intro Pi.eta (And.intro Pu.eta (And.intro Rg.eta (And.intro Sc.eta (And.intro Sc.eta_r (And.intro Sc.eta_k (Sc.eta_2)))))))
theorem ap2 (a:Rg) (ha:Rg.ok a) (U:Env) (g:varsD U 0 [.int .u64,.int .u64,.int .i64,.int .i64]=[.z a.ul,.z a.uh,.z a.sl,.z a.sh]):sT_vcom.asks agS (fun U e=>e.D U=oY [.z a.ul,.z a.uh,.z a.sl,.z a.sh]) U fun _ _=>False:=by
 simp only[varsD,varD,thm5,gS0,Nat.reduceAdd,and_true] at g
 simp only[sT_vcom,ao7,agS,xh,adf,oY,yU,simQ,ai,S1,Nat.reduceSub,Nat.reduceAdd,-eq_self,ae,g]
 intro e;(try simp only[e,ae,-eq_self]);clear e
 constructor<;>intro c0
 constructor<;>intro c1
 ·(have hx:=vb a.ul a.uh;have hb:aE (bits .xor .u64 a.ul a.uh).toNat<=64:=eP (by omega);have h1:IntKind.i64.wrap (64-(64-(aE (bits .xor .u64 a.ul a.uh).toNat:Int)))<0:=thm3 c1;rw[aR] at h1;omega)
 ·exact aS (auG (Rg.wf_of ha))
 ·exact aS (auH (Rg.wf_of ha) c0)
theorem mxo7:Tryz.prog.follows .mixedOrders=true:=by kernel_rfl
theorem arl {sp:Spec} {key:Nat} (hF:sp.F key=oY) (hP:sp.pre key=fun _=>True:=by rfl):SmOk Tryz.prog sp (zm key):=
 aq (s:=zm key) hF hP mxo7 bC (smc (at6 rfl) sm0) Tryz.func203 fn0 aqK (.inl rfl) (fun x0 gx0 x1 gx1 x2 gx2 x3 gx3 hp U g=>ap2 ⟨x0,x1,x2,x3⟩ ⟨gx0,gx1,gx2,gx3⟩ U g)
def oF (key:Nat):Sm:=⟨151,key,[.agg kSc],[.agg kSc,.one .bool],true⟩
def ol (a:Sc):List Dt:=[.z ((vnar a).ul),.z ((vnar a).uh),.z ((vnar a).sl),.z ((vnar a).sh),.z ((vnar a).v),.z ((vnar a).m),.z (b2i (vnok a))]
def gi:List Dt->List Dt
 | [.z x0,.z x1,.z x2,.z x3,.z x4,.z x5]=>ol ⟨x0,x1,x2,x3,x4,x5⟩
 | _=>[]
def sT_vnar:Tr:=
(.call 0 [.bool] (.vs 0 6 .nil) 6
(.br (.bw 6)
(.call 2 (kRg) .nil 7
(.call 3 (kRg++[.bool]) (.vs 0 5 (.cons (.bin .or .u64 (.var 4) (.var 5)) (.vs 9 2 .nil))) 11
(.br (.bw 15)
(.call 5 (kKn) (.vs 11 4 .nil) 16
(.call 4 (kKn++[.bool]) (.vs 4 2 (.vs 16 2 .nil)) 18
(.br (.bw 20)
(.call 3 (kRg++[.bool]) (.vs 11 4 (.cons (.var 18) (.cons (.bin .or .u64 (.var 18) (.var 19)) (.vs 9 2 .nil)))) 21
(.br (.bw 25)
(.call 5 (kKn) (.vs 21 4 .nil) 26
(.call 4 (kKn++[.bool]) (.vs 18 2 (.vs 26 2 .nil)) 28
(.br (.bw 30)
(.leaf (.vs 21 4 (.vs 28 2 (.cb (.tt true) .nil))))
(.call 1 (kSc) .nil 31
(.leaf (.vs 31 6 (.cb (.tt false) .nil)))))))
(.call 1 (kSc) .nil 26
(.leaf (.vs 26 6 (.cb (.tt false) .nil))))))
(.call 1 (kSc) .nil 21
(.leaf (.vs 21 6 (.cb (.tt false) .nil)))))))
(.call 1 (kSc) .nil 16
(.leaf (.vs 16 6 (.cb (.tt false) .nil)))))))
(.call 1 (kSc) .nil 7
(.leaf (.vs 7 6 (.cb (.tt false) .nil))))))
def agO:Spec:={F:=fun k=>match k with | 0=>cp | 1=>cM | 2=>bF | 3=>jN | 4=>gp | 5=>oY | _=>fun _=>[],pre:=fun _ _=>True}
theorem aqG:ap tys_VaB [ge 0,hE 1,eu 2,tV 3,nC 4,zm 5] [] [] [] 200 Tryz.f151 [.agg kSc] [.agg kSc,.one .bool] true [.int .u64,.int .u64,.int .i64,.int .i64,.int .u64,.int .u64] sT_vnar:=⟨by kernel_rfl,by kernel_rfl,by kernel_rfl⟩
theorem apY (a:Sc) (ha:Sc.ok a) (U:Env) (g:varsD U 0 [.int .u64,.int .u64,.int .i64,.int .i64,.int .u64,.int .u64]=[.z a.ul,.z a.uh,.z a.sl,.z a.sh,.z a.v,.z a.m]):sT_vnar.asks agO (fun U e=>e.D U=gi [.z a.ul,.z a.uh,.z a.sl,.z a.sh,.z a.v,.z a.m]) U fun _ _=>False:=by
 simp only[varsD,varD,thm5,gS0,Nat.reduceAdd,and_true] at g
 simp only[sT_vnar,agO,kKn,kRg,kSc,cp,cM,bF,jN,gp,oY,fZ,sX,nv,yU,gi,ol,simQ,ai,S1,Nat.reduceSub,Nat.reduceAdd,-eq_self,ae,g]
 intro e;(try simp only[e,ae,-eq_self]);clear e
 constructor<;>intro c0
 intro e;(try simp only[e,ae,-eq_self]);clear e
 intro e;(try simp only[e,ae,-eq_self]);clear e
 constructor<;>intro c1
 intro e;(try simp only[e,ae,-eq_self]);clear e
 intro e;(try simp only[e,ae,-eq_self]);clear e
 constructor<;>intro c2
 intro e;(try simp only[e,ae,-eq_self]);clear e
 constructor<;>intro c3
 intro e;(try simp only[e,ae,-eq_self]);clear e
 intro e;(try simp only[e,ae,-eq_self]);clear e
 constructor<;>intro c4
 ·(have q:=vn_t (a:=a) c0 c1 c2 c3 c4;rw[q.1,q.2];try rfl)
 intro e;(try simp only[e,ae,-eq_self]);clear e
 ·(have q:=vn_f (a:=a) (.inr (.inr (.inr (.inr (c4)))));rw[q.1,q.2];try rfl)
 intro e;(try simp only[e,ae,-eq_self]);clear e
 ·(have q:=vn_f (a:=a) (.inr (.inr (.inr (.inl c3))));rw[q.1,q.2];try rfl)
 intro e;(try simp only[e,ae,-eq_self]);clear e
 ·(have q:=vn_f (a:=a) (.inr (.inr (.inl c2)));rw[q.1,q.2];try rfl)
 intro e;(try simp only[e,ae,-eq_self]);clear e
 ·(have q:=vn_f (a:=a) (.inr (.inl c1));rw[q.1,q.2];try rfl)
 intro e;(try simp only[e,ae,-eq_self]);clear e
 ·(have q:=vn_f (a:=a) (.inl c0);rw[q.1,q.2];try rfl)
theorem zE {sp:Spec} {key:Nat} (hF:sp.F key=gi) (hP:sp.pre key=fun _=>True:=by rfl):SmOk Tryz.prog sp (oF key):=
 aq (s:=oF key) hF hP mxo7 bC (smc (jH rfl) (smc (mi rfl) (smc (fK rfl) (smc (ahV rfl) (smc (abL rfl) (smc (arl rfl) sm0)))))) Tryz.func151 fn0 aqG (.inl rfl) (fun x0 gx0 x1 gx1 x2 gx2 x3 gx3 x4 gx4 x5 gx5 hp U g=>apY ⟨x0,x1,x2,x3,x4,x5⟩ ⟨gx0,gx1,gx2,gx3,gx4,gx5⟩ U g)
def fc (key:Nat):Sm:=⟨187,key,[.agg kSc],[.agg kSc],false⟩
def eZ (a:Sc):List Dt:=[.z ((vnar a).ul),.z ((vnar a).uh),.z ((vnar a).sl),.z ((vnar a).sh),.z ((vnar a).v),.z ((vnar a).m)]
def bP:List Dt->List Dt
 | [.z x0,.z x1,.z x2,.z x3,.z x4,.z x5]=>eZ ⟨x0,x1,x2,x3,x4,x5⟩
 | _=>[]
def sT_vnard:Tr:=
(.call 0 (kSc++[.bool]) (.vs 0 6 .nil) 6
(.leaf (.vs 6 6 .nil)))
def abf:Spec:={F:=fun k=>match k with | 0=>gi | _=>fun _=>[],pre:=fun _ _=>True}
theorem alv:ap tys_VaB [oF 0] [] [] [] 200 Tryz.f187 [.agg kSc] [.agg kSc] false [.int .u64,.int .u64,.int .i64,.int .i64,.int .u64,.int .u64] sT_vnard:=⟨by kernel_rfl,by kernel_rfl,by kernel_rfl⟩
theorem akV (a:Sc) (ha:Sc.ok a) (U:Env) (g:varsD U 0 [.int .u64,.int .u64,.int .i64,.int .i64,.int .u64,.int .u64]=[.z a.ul,.z a.uh,.z a.sl,.z a.sh,.z a.v,.z a.m]):sT_vnard.asks abf (fun U e=>e.D U=bP [.z a.ul,.z a.uh,.z a.sl,.z a.sh,.z a.v,.z a.m]) U fun _ _=>False:=by
 simp only[varsD,varD,thm5,gS0,Nat.reduceAdd,and_true] at g
 simp only[sT_vnard,abf,kSc,gi,ol,bP,eZ,simQ,ai,S1,Nat.reduceSub,Nat.reduceAdd,-eq_self,ae,g]
 intro e;(try simp only[e,ae,-eq_self]);clear e
 ·rfl
theorem iT {sp:Spec} {key:Nat} (hF:sp.F key=bP) (hP:sp.pre key=fun _=>True:=by rfl):SmOk Tryz.prog sp (fc key):=
 aq (s:=fc key) hF hP mxo7 bC (smc (zE rfl) sm0) Tryz.func187 fn0 alv (.inl rfl) (fun x0 gx0 x1 gx1 x2 gx2 x3 gx3 x4 gx4 x5 gx5 hp U g=>akV ⟨x0,x1,x2,x3,x4,x5⟩ ⟨gx0,gx1,gx2,gx3,gx4,gx5⟩ U g)
def tu (key:Nat):Sm:=⟨152,key,[.agg kSc,.agg kSc,.one (.fn 153),.one (.fn 154)],[.agg kSc],false⟩
def sH (a:Sc) (b:Sc):List Dt:=[.z ((dr a b).ul),.z ((dr a b).uh),.z ((dr a b).sl),.z ((dr a b).sh),.z ((dr a b).v),.z ((dr a b).m)]
def kL:List Dt->List Dt
 | [.z x0,.z x1,.z x2,.z x3,.z x4,.z x5,.z x6,.z x7,.z x8,.z x9,.z x10,.z x11]=>sH ⟨x0,x1,x2,x3,x4,x5⟩ ⟨x6,x7,x8,x9,x10,x11⟩
 | _=>[]
def sT_vtwoj:Tr:=
(.call 0 [.bool] (.vs 0 6 .nil) 12
(.br (.bw 12)
(.call 0 [.bool] (.vs 6 6 .nil) 13
(.br (.bw 13)
(.call 3 (kRg) (.vs 0 4 (.vs 6 4 .nil)) 14
(.call 4 (kKn) (.vs 4 2 (.vs 10 2 .nil)) 18
(.call 2 (kSc) (.vs 14 6 .nil) 20
(.leaf (.vs 20 6 .nil)))))
(.call 1 (kSc) .nil 14
(.leaf (.vs 14 6 .nil)))))
(.call 1 (kSc) .nil 13
(.leaf (.vs 13 6 .nil)))))
def abe:Spec:={F:=fun k=>match k with | 0=>cp | 1=>cM | 2=>bP | 3=>jQ | 4=>dZ | _=>fun _=>[],pre:=fun _ _=>True}
theorem alt:ap tys_VaB [ge 0,hE 1,fc 2,tZ 3,kE 4] [] [] [] 200 Tryz.f152 [.agg kSc,.agg kSc,.one (.fn 153),.one (.fn 154)] [.agg kSc] false [.int .u64,.int .u64,.int .i64,.int .i64,.int .u64,.int .u64,.int .u64,.int .u64,.int .i64,.int .i64,.int .u64,.int .u64] sT_vtwoj:=⟨by kernel_rfl,by kernel_rfl,by kernel_rfl⟩
theorem akT (a:Sc) (ha:Sc.ok a) (b:Sc) (hb:Sc.ok b) (U:Env) (g:varsD U 0 [.int .u64,.int .u64,.int .i64,.int .i64,.int .u64,.int .u64,.int .u64,.int .u64,.int .i64,.int .i64,.int .u64,.int .u64]=[.z a.ul,.z a.uh,.z a.sl,.z a.sh,.z a.v,.z a.m,.z b.ul,.z b.uh,.z b.sl,.z b.sh,.z b.v,.z b.m]):sT_vtwoj.asks abe (fun U e=>e.D U=kL [.z a.ul,.z a.uh,.z a.sl,.z a.sh,.z a.v,.z a.m,.z b.ul,.z b.uh,.z b.sl,.z b.sh,.z b.v,.z b.m]) U fun _ _=>False:=by
 simp only[varsD,varD,thm5,gS0,Nat.reduceAdd,and_true] at g
 simp only[sT_vtwoj,abe,kKn,kRg,kSc,cp,cM,bP,jQ,dZ,fZ,eZ,te,kz,kL,sH,simQ,ai,S1,Nat.reduceSub,Nat.reduceAdd,-eq_self,ae,g]
 intro e;(try simp only[e,ae,-eq_self]);clear e
 constructor<;>intro c0
 intro e;(try simp only[e,ae,-eq_self]);clear e
 constructor<;>intro c1
 intro e;(try simp only[e,ae,-eq_self]);clear e
 intro e;(try simp only[e,ae,-eq_self]);clear e
 intro e;(try simp only[e,ae,-eq_self]);clear e
 ·(rw[show dr a b=vnar (sc (fC a.r b.r) (gB a.k b.k)) from if_pos ⟨c0,c1⟩];try rfl)
 intro e;(try simp only[e,ae,-eq_self]);clear e
 ·(rw[show dr a b=vall from if_neg (fun q=>by simp_all)];try rfl)
 intro e;(try simp only[e,ae,-eq_self]);clear e
 ·(rw[show dr a b=vall from if_neg (fun q=>by simp_all)];try rfl)
theorem alZ {sp:Spec} {key:Nat} (hF:sp.F key=kL) (hP:sp.pre key=fun _=>True:=by rfl):SmOk Tryz.prog sp (tu key):=
 aq (s:=tu key) hF hP mxo7 bC (smc (jH rfl) (smc (mi rfl) (smc (iT rfl) (smc (ahZ rfl) (smc (uf rfl) sm0))))) Tryz.func152 fn0 alt (.inl rfl) (fun x0 gx0 x1 gx1 x2 gx2 x3 gx3 x4 gx4 x5 gx5 x6 gx6 x7 gx7 x8 gx8 x9 gx9 x10 gx10 x11 gx11 hp U g=>akT ⟨x0,x1,x2,x3,x4,x5⟩ ⟨gx0,gx1,gx2,gx3,gx4,gx5⟩ ⟨x6,x7,x8,x9,x10,x11⟩ ⟨gx6,gx7,gx8,gx9,gx10,gx11⟩ U g)
def tB (key:Nat):Sm:=⟨91,key,[.agg kSc,.agg kSc],[.agg kSc],false⟩
def sI (a:Sc) (b:Sc):List Dt:=[.z ((dr a b).ul),.z ((dr a b).uh),.z ((dr a b).sl),.z ((dr a b).sh),.z ((dr a b).v),.z ((dr a b).m)]
def kM:List Dt->List Dt
 | [.z x0,.z x1,.z x2,.z x3,.z x4,.z x5,.z x6,.z x7,.z x8,.z x9,.z x10,.z x11]=>sI ⟨x0,x1,x2,x3,x4,x5⟩ ⟨x6,x7,x8,x9,x10,x11⟩
 | _=>[]
def sT_vjoin:Tr:=
(.call 0 (kSc) (.vs 0 12 .nil) 12
(.leaf (.vs 12 6 .nil)))
def abg:Spec:={F:=fun k=>match k with | 0=>kL | _=>fun _=>[],pre:=fun _ _=>True}
theorem alw:ap tys_VaB [tu 0] [] [] [] 200 Tryz.f91 [.agg kSc,.agg kSc] [.agg kSc] false [.int .u64,.int .u64,.int .i64,.int .i64,.int .u64,.int .u64,.int .u64,.int .u64,.int .i64,.int .i64,.int .u64,.int .u64] sT_vjoin:=⟨by kernel_rfl,by kernel_rfl,by kernel_rfl⟩
theorem akW (a:Sc) (ha:Sc.ok a) (b:Sc) (hb:Sc.ok b) (U:Env) (g:varsD U 0 [.int .u64,.int .u64,.int .i64,.int .i64,.int .u64,.int .u64,.int .u64,.int .u64,.int .i64,.int .i64,.int .u64,.int .u64]=[.z a.ul,.z a.uh,.z a.sl,.z a.sh,.z a.v,.z a.m,.z b.ul,.z b.uh,.z b.sl,.z b.sh,.z b.v,.z b.m]):sT_vjoin.asks abg (fun U e=>e.D U=kM [.z a.ul,.z a.uh,.z a.sl,.z a.sh,.z a.v,.z a.m,.z b.ul,.z b.uh,.z b.sl,.z b.sh,.z b.v,.z b.m]) U fun _ _=>False:=by
 simp only[varsD,varD,thm5,gS0,Nat.reduceAdd,and_true] at g
 simp only[sT_vjoin,abg,kSc,kL,sH,kM,sI,simQ,ai,S1,Nat.reduceSub,Nat.reduceAdd,-eq_self,ae,g]
 intro e;(try simp only[e,ae,-eq_self]);clear e
 ·rfl
theorem al1 {sp:Spec} {key:Nat} (hF:sp.F key=kM) (hP:sp.pre key=fun _=>True:=by rfl):SmOk Tryz.prog sp (tB key):=
 aq (s:=tB key) hF hP mxo7 bC (smc (alZ rfl) sm0) Tryz.func91 fn0 alw (.inl rfl) (fun x0 gx0 x1 gx1 x2 gx2 x3 gx3 x4 gx4 x5 gx5 x6 gx6 x7 gx7 x8 gx8 x9 gx9 x10 gx10 x11 gx11 hp U g=>akW ⟨x0,x1,x2,x3,x4,x5⟩ ⟨gx0,gx1,gx2,gx3,gx4,gx5⟩ ⟨x6,x7,x8,x9,x10,x11⟩ ⟨gx6,gx7,gx8,gx9,gx10,gx11⟩ U g)
def tE (key:Nat):Sm:=⟨157,key,[.one (.int .u64),.one (.int .u64),.one (.int .u64),.one .bool],[.one (.int .u64)],false⟩
def sK (a:Int) (b:Int) (c:Int) (t:Bool):List Dt:=[.z (if(a==b)=false/\t=true then c else a)]
def kP:List Dt->List Dt
 | [.z x0,.z x1,.z x2,.z x3]=>sK x0 x1 x2 (x3==1)
 | _=>[]
def sT_vendu:Tr:=
(.br (.eq (.var 0) (.var 1))
(.leaf (.cons (.var 0) .nil))
(.br (.bw 3)
(.leaf (.cons (.var 2) .nil))
(.leaf (.cons (.var 0) .nil))))
def abi:Spec:={F:=fun k=>match k with | _=>fun _=>[],pre:=fun _ _=>True}
theorem aly:ap tys_VaB [] [] [] [] 200 Tryz.f157 [.one (.int .u64),.one (.int .u64),.one (.int .u64),.one .bool] [.one (.int .u64)] false [.int .u64,.int .u64,.int .u64,.bool] sT_vendu:=⟨by kernel_rfl,by kernel_rfl,by kernel_rfl⟩
theorem akY (a:Int) (ha:inK .u64 a=true) (b:Int) (hb:inK .u64 b=true) (c:Int) (hc:inK .u64 c=true) (t:Bool) (U:Env) (g:varsD U 0 [.int .u64,.int .u64,.int .u64,.bool]=[.z a,.z b,.z c,.z (b2i t)]):sT_vendu.asks abi (fun U e=>e.D U=kP [.z a,.z b,.z c,.z (b2i t)]) U fun _ _=>False:=by
 simp only[varsD,varD,thm5,gS0,Nat.reduceAdd,and_true] at g
 simp only[sT_vendu,abi,kP,sK,simQ,ai,S1,Nat.reduceSub,Nat.reduceAdd,-eq_self,Sc.eta_r,Sc.eta_k,Sc.eta_2,g]
 constructor<;>intro c0
 ·(simp_all)
 constructor<;>intro c1
 ·(simp_all)
 ·(simp_all)
theorem al3 {sp:Spec} {key:Nat} (hF:sp.F key=kP) (hP:sp.pre key=fun _=>True:=by rfl):SmOk Tryz.prog sp (tE key):=
 aq (s:=tE key) hF hP mxo7 bC (sm0) Tryz.func157 fn0 aly (.inl rfl) (fun x0 gx0 x1 gx1 x2 gx2 x3 hp U g=>akY x0 gx0 x1 gx1 x2 gx2 x3 U g)
def tF (key:Nat):Sm:=⟨158,key,[.one (.int .i64),.one (.int .i64),.one (.int .i64),.one .bool],[.one (.int .i64)],false⟩
def sL (a:Int) (b:Int) (c:Int) (t:Bool):List Dt:=[.z (if(a==b)=false/\t=true then c else a)]
def kQ:List Dt->List Dt
 | [.z x0,.z x1,.z x2,.z x3]=>sL x0 x1 x2 (x3==1)
 | _=>[]
def sT_vendi:Tr:=
(.br (.eq (.var 0) (.var 1))
(.leaf (.cons (.var 0) .nil))
(.br (.bw 3)
(.leaf (.cons (.var 2) .nil))
(.leaf (.cons (.var 0) .nil))))
def abj:Spec:={F:=fun k=>match k with | _=>fun _=>[],pre:=fun _ _=>True}
theorem alz:ap tys_VaB [] [] [] [] 200 Tryz.f158 [.one (.int .i64),.one (.int .i64),.one (.int .i64),.one .bool] [.one (.int .i64)] false [.int .i64,.int .i64,.int .i64,.bool] sT_vendi:=⟨by kernel_rfl,by kernel_rfl,by kernel_rfl⟩
theorem akZ (a:Int) (ha:inK .i64 a=true) (b:Int) (hb:inK .i64 b=true) (c:Int) (hc:inK .i64 c=true) (t:Bool) (U:Env) (g:varsD U 0 [.int .i64,.int .i64,.int .i64,.bool]=[.z a,.z b,.z c,.z (b2i t)]):sT_vendi.asks abj (fun U e=>e.D U=kQ [.z a,.z b,.z c,.z (b2i t)]) U fun _ _=>False:=by
 simp only[varsD,varD,thm5,gS0,Nat.reduceAdd,and_true] at g
 simp only[sT_vendi,abj,kQ,sL,simQ,ai,S1,Nat.reduceSub,Nat.reduceAdd,-eq_self,Sc.eta_r,Sc.eta_k,Sc.eta_2,g]
 constructor<;>intro c0
 ·(simp_all)
 constructor<;>intro c1
 ·(simp_all)
 ·(simp_all)
theorem al4 {sp:Spec} {key:Nat} (hF:sp.F key=kQ) (hP:sp.pre key=fun _=>True:=by rfl):SmOk Tryz.prog sp (tF key):=
 aq (s:=tF key) hF hP mxo7 bC (sm0) Tryz.func158 fn0 alz (.inl rfl) (fun x0 gx0 x1 gx1 x2 gx2 x3 hp U g=>akZ x0 gx0 x1 gx1 x2 gx2 x3 U g)
def tp (key:Nat):Sm:=⟨155,key,[.agg kRg,.agg kRg],[.agg kRg],false⟩
def sF (a:Rg) (b:Rg):List Dt:=[.z ((bwid a b).ul),.z ((bwid a b).uh),.z ((bwid a b).sl),.z ((bwid a b).sh)]
def kJ:List Dt->List Dt
 | [.z x0,.z x1,.z x2,.z x3,.z x4,.z x5,.z x6,.z x7]=>sF ⟨x0,x1,x2,x3⟩ ⟨x4,x5,x6,x7⟩
 | _=>[]
def sT_vwid0:Tr:=
(.call 0 (kRg) .nil 8
(.call 1 [.int .u64] (.cons (.var 0) (.cons (.var 4) (.cons (.var 8) (.cb (.lt (.var 4) (.var 0)) .nil)))) 12
(.call 1 [.int .u64] (.cons (.var 1) (.cons (.var 5) (.cons (.var 9) (.cb (.lt (.var 1) (.var 5)) .nil)))) 13
(.call 2 [.int .i64] (.cons (.var 2) (.cons (.var 6) (.cons (.var 10) (.cb (.lt (.var 6) (.var 2)) .nil)))) 14
(.call 2 [.int .i64] (.cons (.var 3) (.cons (.var 7) (.cons (.var 11) (.cb (.lt (.var 3) (.var 7)) .nil)))) 15
(.leaf (.vs 12 4 .nil)))))))
def abc:Spec:={F:=fun k=>match k with | 0=>bF | 1=>kP | 2=>kQ | _=>fun _=>[],pre:=fun _ _=>True}
theorem alr:ap tys_VaB [eu 0,tE 1,tF 2] [] [] [] 200 Tryz.f155 [.agg kRg,.agg kRg] [.agg kRg] false [.int .u64,.int .u64,.int .i64,.int .i64,.int .u64,.int .u64,.int .i64,.int .i64] sT_vwid0:=⟨by kernel_rfl,by kernel_rfl,by kernel_rfl⟩
theorem akR (a:Rg) (ha:Rg.ok a) (b:Rg) (hb:Rg.ok b) (U:Env) (g:varsD U 0 [.int .u64,.int .u64,.int .i64,.int .i64,.int .u64,.int .u64,.int .i64,.int .i64]=[.z a.ul,.z a.uh,.z a.sl,.z a.sh,.z b.ul,.z b.uh,.z b.sl,.z b.sh]):sT_vwid0.asks abc (fun U e=>e.D U=kJ [.z a.ul,.z a.uh,.z a.sl,.z a.sh,.z b.ul,.z b.uh,.z b.sl,.z b.sh]) U fun _ _=>False:=by
 simp only[varsD,varD,thm5,gS0,Nat.reduceAdd,and_true] at g
 simp only[sT_vwid0,abc,kRg,bF,kP,kQ,sK,sL,kJ,sF,simQ,ai,S1,Nat.reduceSub,Nat.reduceAdd,-eq_self,ae,g]
 intro e;(try simp only[e,ae,-eq_self]);clear e
 intro e;(try simp only[e,ae,-eq_self]);clear e
 intro e;(try simp only[e,ae,-eq_self]);clear e
 intro e;(try simp only[e,ae,-eq_self]);clear e
 intro e;(try simp only[e,ae,-eq_self]);clear e
 ·rfl
theorem alX {sp:Spec} {key:Nat} (hF:sp.F key=kJ) (hP:sp.pre key=fun _=>True:=by rfl):SmOk Tryz.prog sp (tp key):=
 aq (s:=tp key) hF hP mxo7 bC (smc (fK rfl) (smc (al3 rfl) (smc (al4 rfl) sm0))) Tryz.func155 fn0 alr (.inl rfl) (fun x0 gx0 x1 gx1 x2 gx2 x3 gx3 x4 gx4 x5 gx5 x6 gx6 x7 gx7 hp U g=>akR ⟨x0,x1,x2,x3⟩ ⟨gx0,gx1,gx2,gx3⟩ ⟨x4,x5,x6,x7⟩ ⟨gx4,gx5,gx6,gx7⟩ U g)
def tq (key:Nat):Sm:=⟨152,key,[.agg kSc,.agg kSc,.one (.fn 155),.one (.fn 154)],[.agg kSc],false⟩
def sG (a:Sc) (b:Sc):List Dt:=[.z ((vwid a b).ul),.z ((vwid a b).uh),.z ((vwid a b).sl),.z ((vwid a b).sh),.z ((vwid a b).v),.z ((vwid a b).m)]
def kK:List Dt->List Dt
 | [.z x0,.z x1,.z x2,.z x3,.z x4,.z x5,.z x6,.z x7,.z x8,.z x9,.z x10,.z x11]=>sG ⟨x0,x1,x2,x3,x4,x5⟩ ⟨x6,x7,x8,x9,x10,x11⟩
 | _=>[]
def sT_vtwow:Tr:=
(.call 0 [.bool] (.vs 0 6 .nil) 12
(.br (.bw 12)
(.call 0 [.bool] (.vs 6 6 .nil) 13
(.br (.bw 13)
(.call 3 (kRg) (.vs 0 4 (.vs 6 4 .nil)) 14
(.call 4 (kKn) (.vs 4 2 (.vs 10 2 .nil)) 18
(.call 2 (kSc) (.vs 14 6 .nil) 20
(.leaf (.vs 20 6 .nil)))))
(.call 1 (kSc) .nil 14
(.leaf (.vs 14 6 .nil)))))
(.call 1 (kSc) .nil 13
(.leaf (.vs 13 6 .nil)))))
def abd:Spec:={F:=fun k=>match k with | 0=>cp | 1=>cM | 2=>bP | 3=>kJ | 4=>dZ | _=>fun _=>[],pre:=fun _ _=>True}
theorem als:ap tys_VaB [ge 0,hE 1,fc 2,tp 3,kE 4] [] [] [] 200 Tryz.f152 [.agg kSc,.agg kSc,.one (.fn 155),.one (.fn 154)] [.agg kSc] false [.int .u64,.int .u64,.int .i64,.int .i64,.int .u64,.int .u64,.int .u64,.int .u64,.int .i64,.int .i64,.int .u64,.int .u64] sT_vtwow:=⟨by kernel_rfl,by kernel_rfl,by kernel_rfl⟩
theorem akS (a:Sc) (ha:Sc.ok a) (b:Sc) (hb:Sc.ok b) (U:Env) (g:varsD U 0 [.int .u64,.int .u64,.int .i64,.int .i64,.int .u64,.int .u64,.int .u64,.int .u64,.int .i64,.int .i64,.int .u64,.int .u64]=[.z a.ul,.z a.uh,.z a.sl,.z a.sh,.z a.v,.z a.m,.z b.ul,.z b.uh,.z b.sl,.z b.sh,.z b.v,.z b.m]):sT_vtwow.asks abd (fun U e=>e.D U=kK [.z a.ul,.z a.uh,.z a.sl,.z a.sh,.z a.v,.z a.m,.z b.ul,.z b.uh,.z b.sl,.z b.sh,.z b.v,.z b.m]) U fun _ _=>False:=by
 simp only[varsD,varD,thm5,gS0,Nat.reduceAdd,and_true] at g
 simp only[sT_vtwow,abd,kKn,kRg,kSc,cp,cM,bP,kJ,dZ,fZ,eZ,sF,kz,kK,sG,simQ,ai,S1,Nat.reduceSub,Nat.reduceAdd,-eq_self,ae,g]
 intro e;(try simp only[e,ae,-eq_self]);clear e
 constructor<;>intro c0
 intro e;(try simp only[e,ae,-eq_self]);clear e
 constructor<;>intro c1
 intro e;(try simp only[e,ae,-eq_self]);clear e
 intro e;(try simp only[e,ae,-eq_self]);clear e
 intro e;(try simp only[e,ae,-eq_self]);clear e
 ·(rw[show vwid a b=vnar (sc (bwid a.r b.r) (gB a.k b.k)) from if_pos ⟨c0,c1⟩];try rfl)
 intro e;(try simp only[e,ae,-eq_self]);clear e
 ·(rw[show vwid a b=vall from if_neg (fun q=>by simp_all)];try rfl)
 intro e;(try simp only[e,ae,-eq_self]);clear e
 ·(rw[show vwid a b=vall from if_neg (fun q=>by simp_all)];try rfl)
theorem alY {sp:Spec} {key:Nat} (hF:sp.F key=kK) (hP:sp.pre key=fun _=>True:=by rfl):SmOk Tryz.prog sp (tq key):=
 aq (s:=tq key) hF hP mxo7 bC (smc (jH rfl) (smc (mi rfl) (smc (iT rfl) (smc (alX rfl) (smc (uf rfl) sm0))))) Tryz.func152 fn0 als (.inl rfl) (fun x0 gx0 x1 gx1 x2 gx2 x3 gx3 x4 gx4 x5 gx5 x6 gx6 x7 gx7 x8 gx8 x9 gx9 x10 gx10 x11 gx11 hp U g=>akS ⟨x0,x1,x2,x3,x4,x5⟩ ⟨gx0,gx1,gx2,gx3,gx4,gx5⟩ ⟨x6,x7,x8,x9,x10,x11⟩ ⟨gx6,gx7,gx8,gx9,gx10,gx11⟩ U g)
def zj (key:Nat):Sm:=⟨93,key,[.agg kSc,.agg kSc],[.agg kSc],false⟩
def yS (a:Sc) (b:Sc):List Dt:=[.z ((vwid a b).ul),.z ((vwid a b).uh),.z ((vwid a b).sl),.z ((vwid a b).sh),.z ((vwid a b).v),.z ((vwid a b).m)]
def oW:List Dt->List Dt
 | [.z x0,.z x1,.z x2,.z x3,.z x4,.z x5,.z x6,.z x7,.z x8,.z x9,.z x10,.z x11]=>yS ⟨x0,x1,x2,x3,x4,x5⟩ ⟨x6,x7,x8,x9,x10,x11⟩
 | _=>[]
def sT_vwid:Tr:=
(.call 0 (kSc) (.vs 0 12 .nil) 12
(.leaf (.vs 12 6 .nil)))
def agL:Spec:={F:=fun k=>match k with | 0=>kK | _=>fun _=>[],pre:=fun _ _=>True}
theorem aqB:ap tys_VaB [tq 0] [] [] [] 200 Tryz.f93 [.agg kSc,.agg kSc] [.agg kSc] false [.int .u64,.int .u64,.int .i64,.int .i64,.int .u64,.int .u64,.int .u64,.int .u64,.int .i64,.int .i64,.int .u64,.int .u64] sT_vwid:=⟨by kernel_rfl,by kernel_rfl,by kernel_rfl⟩
theorem apT (a:Sc) (ha:Sc.ok a) (b:Sc) (hb:Sc.ok b) (U:Env) (g:varsD U 0 [.int .u64,.int .u64,.int .i64,.int .i64,.int .u64,.int .u64,.int .u64,.int .u64,.int .i64,.int .i64,.int .u64,.int .u64]=[.z a.ul,.z a.uh,.z a.sl,.z a.sh,.z a.v,.z a.m,.z b.ul,.z b.uh,.z b.sl,.z b.sh,.z b.v,.z b.m]):sT_vwid.asks agL (fun U e=>e.D U=oW [.z a.ul,.z a.uh,.z a.sl,.z a.sh,.z a.v,.z a.m,.z b.ul,.z b.uh,.z b.sl,.z b.sh,.z b.v,.z b.m]) U fun _ _=>False:=by
 simp only[varsD,varD,thm5,gS0,Nat.reduceAdd,and_true] at g
 simp only[sT_vwid,agL,kSc,kK,sG,oW,yS,simQ,ai,S1,Nat.reduceSub,Nat.reduceAdd,-eq_self,ae,g]
 intro e;(try simp only[e,ae,-eq_self]);clear e
 ·rfl
theorem ari {sp:Spec} {key:Nat} (hF:sp.F key=oW) (hP:sp.pre key=fun _=>True:=by rfl):SmOk Tryz.prog sp (zj key):=
 aq (s:=zj key) hF hP mxo7 bC (smc (alY rfl) sm0) Tryz.func93 fn0 aqB (.inl rfl) (fun x0 gx0 x1 gx1 x2 gx2 x3 gx3 x4 gx4 x5 gx5 x6 gx6 x7 gx7 x8 gx8 x9 gx9 x10 gx10 x11 gx11 hp U g=>apT ⟨x0,x1,x2,x3,x4,x5⟩ ⟨gx0,gx1,gx2,gx3,gx4,gx5⟩ ⟨x6,x7,x8,x9,x10,x11⟩ ⟨gx6,gx7,gx8,gx9,gx10,gx11⟩ U g)
def zl (key:Nat):Sm:=⟨190,key,[.agg kSc],[.agg kSc],false⟩
def yT (a:Sc):List Dt:=[.z ((vlow a).ul),.z ((vlow a).uh),.z ((vlow a).sl),.z ((vlow a).sh),.z ((vlow a).v),.z ((vlow a).m)]
def oX:List Dt->List Dt
 | [.z x0,.z x1,.z x2,.z x3,.z x4,.z x5]=>yT ⟨x0,x1,x2,x3,x4,x5⟩
 | _=>[]
def sT_vlow:Tr:=
(.call 0 (kRg) (.vs 0 4 .nil) 6
(.call 1 (kKn) (.vs 4 2 (.cons (.lit 32) .nil)) 10
(.call 2 (kSc) (.vs 6 6 .nil) 12
(.leaf (.vs 12 6 .nil)))))
def agQ:Spec:={F:=fun k=>match k with | 0=>pj | 1=>jP | 2=>bP | _=>fun _=>[],pre:=fun _ _=>True}
theorem aqI:ap tys_VaB [abG 0,tX 1,fc 2] [] [] [] 200 Tryz.f190 [.agg kSc] [.agg kSc] false [.int .u64,.int .u64,.int .i64,.int .i64,.int .u64,.int .u64] sT_vlow:=⟨by kernel_rfl,by kernel_rfl,by kernel_rfl⟩
theorem ap0 (a:Sc) (ha:Sc.ok a) (U:Env) (g:varsD U 0 [.int .u64,.int .u64,.int .i64,.int .i64,.int .u64,.int .u64]=[.z a.ul,.z a.uh,.z a.sl,.z a.sh,.z a.v,.z a.m]):sT_vlow.asks agQ (fun U e=>e.D U=oX [.z a.ul,.z a.uh,.z a.sl,.z a.sh,.z a.v,.z a.m]) U fun _ _=>False:=by
 simp only[varsD,varD,thm5,gS0,Nat.reduceAdd,and_true] at g
 simp only[sT_vlow,agQ,kKn,kRg,kSc,pj,jP,bP,aba,sZ,eZ,oX,yT,simQ,ai,S1,Nat.reduceSub,Nat.reduceAdd,-eq_self,ae,g]
 intro e;(try simp only[e,ae,-eq_self]);clear e
 intro e;(try simp only[e,ae,-eq_self]);clear e
 intro e;(try simp only[e,ae,-eq_self]);clear e
 ·rfl
theorem ark {sp:Spec} {key:Nat} (hF:sp.F key=oX) (hP:sp.pre key=fun _=>True:=by rfl):SmOk Tryz.prog sp (zl key):=
 aq (s:=zl key) hF hP mxo7 bC (smc (an0 rfl) (smc (ahY rfl) (smc (iT rfl) sm0))) Tryz.func190 fn0 aqI (.inl rfl) (fun x0 gx0 x1 gx1 x2 gx2 x3 gx3 x4 gx4 x5 gx5 hp U g=>ap0 ⟨x0,x1,x2,x3,x4,x5⟩ ⟨gx0,gx1,gx2,gx3,gx4,gx5⟩ U g)
def tC (key:Nat):Sm:=⟨191,key,[.one (.int .i8),.agg kSc,.agg kSc],[.agg kRg],false⟩
def sJ (op:Int) (a:Sc) (b:Sc):List Dt:=[.z ((dt op a b).ul),.z ((dt op a b).uh),.z ((dt op a b).sl),.z ((dt op a b).sh)]
def kO:List Dt->List Dt
 | [.z x0,.z x1,.z x2,.z x3,.z x4,.z x5,.z x6,.z x7,.z x8,.z x9,.z x10,.z x11,.z x12]=>sJ x0 ⟨x1,x2,x3,x4,x5,x6⟩ ⟨x7,x8,x9,x10,x11,x12⟩
 | _=>[]
def ao6:Tr:=(.call 2 [.int .u64,.bool] (.vs 7 6 .nil) 21
(.br (.bw 22)
(.call 3 (kSc) (.cons (.bin .and .u64 (.var 21) (.lit 31)) .nil) 23
(.call 4 (kRg) (.vs 0 5 (.vs 23 4 .nil)) 29
(.br (.lt (.var 30) (.lit 4294967296))
(.leaf (.vs 29 4 .nil))
(.leaf (.vs 17 4 .nil)))))
(.leaf (.vs 17 4 .nil))))
def sT_vhalf:Tr:=
(.call 0 (kRg) .nil 13
(.call 1 (kRg) (.vs 13 4 .nil) 17
(.br (.eq (.var 0) (.lit 8))
(.leaf (.vs 17 4 .nil))
(.br (.eq (.var 0) (.lit 12))
(.leaf (.vs 17 4 .nil))
(.br (.eq (.var 0) (.lit 6))
 ao6
(.br (.eq (.var 0) (.lit 7))
 ao6
(.call 4 (kRg) (.vs 0 5 (.vs 7 4 .nil)) 21
(.br (.lt (.var 22) (.lit 4294967296))
(.leaf (.vs 21 4 .nil))
(.leaf (.vs 17 4 .nil))))))))))
def abh:Spec:={F:=fun k=>match k with | 0=>bF | 1=>pj | 2=>fL | 3=>dc | 4=>zI | _=>fun _=>[],pre:=fun _ _=>True}
theorem alx:ap tys_VaB [eu 0,abG 1,mh 2,jG 3,alW 4] [] [] [] 200 Tryz.f191 [.one (.int .i8),.agg kSc,.agg kSc] [.agg kRg] false [.int .i8,.int .u64,.int .u64,.int .i64,.int .i64,.int .u64,.int .u64,.int .u64,.int .u64,.int .i64,.int .i64,.int .u64,.int .u64] sT_vhalf:=⟨by kernel_rfl,by kernel_rfl,by kernel_rfl⟩
theorem akX (op:Int) (hop:inK .i8 op=true) (a:Sc) (ha:Sc.ok a) (b:Sc) (hb:Sc.ok b) (U:Env) (g:varsD U 0 [.int .i8,.int .u64,.int .u64,.int .i64,.int .i64,.int .u64,.int .u64,.int .u64,.int .u64,.int .i64,.int .i64,.int .u64,.int .u64]=[.z op,.z a.ul,.z a.uh,.z a.sl,.z a.sh,.z a.v,.z a.m,.z b.ul,.z b.uh,.z b.sl,.z b.sh,.z b.v,.z b.m]):sT_vhalf.asks abh (fun U e=>e.D U=kO [.z op,.z a.ul,.z a.uh,.z a.sl,.z a.sh,.z a.v,.z a.m,.z b.ul,.z b.uh,.z b.sl,.z b.sh,.z b.v,.z b.m]) U fun _ _=>False:=by
 simp only[varsD,varD,thm5,gS0,Nat.reduceAdd,and_true] at g
 simp only[sT_vhalf,ao6,abh,kRg,kSc,bF,pj,fL,dc,zI,aba,mc,oh,alq,kO,sJ,simQ,ai,S1,Nat.reduceSub,Nat.reduceAdd,-eq_self,ae,g]
 intro e;(try simp only[e,ae,-eq_self]);clear e
 intro e;(try simp only[e,ae,-eq_self]);clear e
 constructor<;>intro c0
 ·(obtain rfl:=eqz c0;rw[show dt 8 a b=blow ball from by unfold dt;simp];try rfl)
 constructor<;>intro c1
 ·(obtain rfl:=eqz c1;rw[show dt 12 a b=blow ball from by unfold dt;simp];try rfl)
 constructor<;>intro c2
 intro e;(try simp only[e,ae,-eq_self]);clear e
 constructor<;>intro c3
 intro e;(try simp only[e,ae,-eq_self]);clear e
 intro e;(try simp only[e,ae,-eq_self]);clear e
 constructor<;>intro c4
 ·(obtain rfl:=eqz c2;have h4:=thm3 c4;rw[show dt 6 a b=bdo 6 a.r (vone (opI .and .u64 (lU b) 31)).r from(by unfold dt;rw[if_neg (by decide),if_pos (by decide),if_pos c3];exact if_pos h4)];try rfl)
 ·(obtain rfl:=eqz c2;have h4:=thm2 c4;rw[show dt 6 a b=blow ball from(by unfold dt;rw[if_neg (by decide),if_pos (by decide),if_pos c3];exact if_neg h4)];try rfl)
 ·(obtain rfl:=eqz c2;rw[show dt 6 a b=blow ball from by unfold dt;simp[c3]];try rfl)
 constructor<;>intro c5
 intro e;(try simp only[e,ae,-eq_self]);clear e
 constructor<;>intro c6
 intro e;(try simp only[e,ae,-eq_self]);clear e
 intro e;(try simp only[e,ae,-eq_self]);clear e
 constructor<;>intro c7
 ·(obtain rfl:=eqz c5;have h4:=thm3 c7;rw[show dt 7 a b=bdo 7 a.r (vone (opI .and .u64 (lU b) 31)).r from(by unfold dt;rw[if_neg (by decide),if_pos (by decide),if_pos c6];exact if_pos h4)];try rfl)
 ·(obtain rfl:=eqz c5;have h4:=thm2 c7;rw[show dt 7 a b=blow ball from(by unfold dt;rw[if_neg (by decide),if_pos (by decide),if_pos c6];exact if_neg h4)];try rfl)
 ·(obtain rfl:=eqz c5;rw[show dt 7 a b=blow ball from by unfold dt;simp[c6]];try rfl)
 intro e;(try simp only[e,ae,-eq_self]);clear e
 constructor<;>intro c8
 ·(have n0:=nez c0;have n1:=nez c1;have n2:=nez c2;have n3:=nez c5;have h4:=thm3 c8;rw[show dt op a b=bdo op a.r b.r from(by unfold dt;rw[if_neg (by omega),if_neg (by omega)];exact if_pos h4)];try rfl)
 ·(have n0:=nez c0;have n1:=nez c1;have n2:=nez c2;have n3:=nez c5;have h4:=thm2 c8;rw[show dt op a b=blow ball from(by unfold dt;rw[if_neg (by omega),if_neg (by omega)];exact if_neg h4)];try rfl)
theorem al2 {sp:Spec} {key:Nat} (hF:sp.F key=kO) (hP:sp.pre key=fun _=>True:=by rfl):SmOk Tryz.prog sp (tC key):=
 aq (s:=tC key) hF hP mxo7 bC (smc (fK rfl) (smc (an0 rfl) (smc (adi rfl) (smc (oU rfl) (smc (aue rfl) sm0))))) Tryz.func191 fn0 alx (.inl rfl) (fun x0 gx0 x1 gx1 x2 gx2 x3 gx3 x4 gx4 x5 gx5 x6 gx6 x7 gx7 x8 gx8 x9 gx9 x10 gx10 x11 gx11 x12 gx12 hp U g=>akX x0 gx0 ⟨x1,x2,x3,x4,x5,x6⟩ ⟨gx1,gx2,gx3,gx4,gx5,gx6⟩ ⟨x7,x8,x9,x10,x11,x12⟩ ⟨gx7,gx8,gx9,gx10,gx11,gx12⟩ U g)
def tG (key:Nat):Sm:=⟨145,key,[.one (.lit .i64 32)],[.agg kSc],false⟩
def kR:List Dt->List Dt
 | []=>[.z ((vbel 4294967295).ul),.z ((vbel 4294967295).uh),.z ((vbel 4294967295).sl),.z ((vbel 4294967295).sh),.z ((vbel 4294967295).v),.z ((vbel 4294967295).m)]
 | _=>[]
def sT_vbel4:Tr:=
(.call 0 (kRg) .nil 0
(.call 1 (kSc) (.cons (.var 0) (.cons (.lit 4294967295) (.vs 2 2 (.cons (.lit 0) (.cons (.lit 4294967295) .nil))))) 4
(.leaf (.vs 4 6 .nil))))
def abk:Spec:={F:=fun k=>match k with | 0=>bF | 1=>bP | _=>fun _=>[],pre:=fun _ _=>True}
theorem alA:ap tys_VaB [eu 0,fc 1] [] [] [] 200 Tryz.f145 [.one (.lit .i64 32)] [.agg kSc] false [] sT_vbel4:=⟨by kernel_rfl,by kernel_rfl,by kernel_rfl⟩
theorem ak0 (U:Env) (g:varsD U 0 []=[]):sT_vbel4.asks abk (fun U e=>e.D U=kR []) U fun _ _=>False:=by
 simp only[sT_vbel4,abk,kRg,kSc,bF,bP,eZ,kR,simQ,ai,S1,Nat.reduceSub,Nat.reduceAdd,-eq_self,ae]
 intro e;(try simp only[e,ae,-eq_self]);clear e
 intro e;(try simp only[e,ae,-eq_self]);clear e
 ·rfl
theorem al5 {sp:Spec} {key:Nat} (hF:sp.F key=kR) (hP:sp.pre key=fun _=>True:=by rfl):SmOk Tryz.prog sp (tG key):=
 aq (s:=tG key) hF hP mxo7 bC (smc (fK rfl) (smc (iT rfl) sm0)) Tryz.func145 fn0 alA (.inl rfl) (fun hp U g=>ak0 U g)
def zo (key:Nat):Sm:=⟨81,key,[.one (.lit .i64 4)],[.agg kSc],false⟩
def o8:List Dt->List Dt
 | []=>[.z ((vbel 4294967295).ul),.z ((vbel 4294967295).uh),.z ((vbel 4294967295).sl),.z ((vbel 4294967295).sh),.z ((vbel 4294967295).v),.z ((vbel 4294967295).m)]
 | _=>[]
def sT_vby4:Tr:=
(.call 0 (kSc) .nil 0
(.leaf (.vs 0 6 .nil)))
def agU:Spec:={F:=fun k=>match k with | 0=>kR | _=>fun _=>[],pre:=fun _ _=>True}
theorem aqM:ap tys_VaB [tG 0] [] [] [] 200 Tryz.f81 [.one (.lit .i64 4)] [.agg kSc] false [] sT_vby4:=⟨by kernel_rfl,by kernel_rfl,by kernel_rfl⟩
theorem ap4 (U:Env) (g:varsD U 0 []=[]):sT_vby4.asks agU (fun U e=>e.D U=o8 []) U fun _ _=>False:=by
 simp only[sT_vby4,agU,kSc,kR,o8,simQ,ai,S1,Nat.reduceSub,Nat.reduceAdd,-eq_self,ae]
 intro e;(try simp only[e,ae,-eq_self]);clear e
 ·rfl
theorem arn {sp:Spec} {key:Nat} (hF:sp.F key=o8) (hP:sp.pre key=fun _=>True:=by rfl):SmOk Tryz.prog sp (zo key):=
 aq (s:=zo key) hF hP mxo7 bC (smc (al5 rfl) sm0) Tryz.func81 fn0 aqM (.inl rfl) (fun hp U g=>ap4 U g)
def tys_KaD:List (Nat×TI):=[(37,gP),
 (42,fF),
 (46,kt),
 (196,⟨false,1,[.nf],[],none,none,false,false,none,8,true,none,false,0⟩),
 (245,⟨true,13,[.nf,.nf,.nf,.nf,.nf,.nf,.nf,.nf,.nf,.nf,.nf,.nf,.nf],[],some (13,196),none,false,false,none,104,false,none,false,0⟩)]
theorem afo:(tys_KaD.all fun p=>ckTI Tryz.prog p.1 p.2)=true:=by kernel_rfl
theorem vN:(tys_KaD.all fun p=>!p.2.eqok)=true:=by kernel_rfl
theorem ae2:(tys_KaD.all fun p=>!p.2.keyok)=true:=by kernel_rfl
theorem cZ:∀t i,(t,i)∈tys_KaD->TIok Tryz.prog t i:=by
 intro t i h
 refine bB (cz (f:=ckTI Tryz.prog) afo h) (fun he=> ?_) (fun he=> ?_) (fun he=> ?_)
 ·have h1:=thm7.1 vN (t,i) h
  simp[he] at h1
 ·have h1:=thm7.1 vN (t,i) h
  simp[he] at h1
 ·have h1:=thm7.1 ae2 (t,i) h
  simp[he] at h1
def tY (key:Nat):Sm:=⟨243,key,[.one (.int .u64),.one (.int .u64),.agg kKn,.agg kKn],[.agg kKn],false⟩
def td (v:Int) (x:Int) (a:Kn) (b:Kn):List Dt:=[.z ((eG v (bits .or .u64 (bits .or .u64 (bits .xor .u64 v x) a.m) b.m)).v),.z ((eG v (bits .or .u64 (bits .or .u64 (bits .xor .u64 v x) a.m) b.m)).m)]
def kZ:List Dt->List Dt
 | [.z x0,.z x1,.z x2,.z x3,.z x4,.z x5]=>td x0 x1 ⟨x2,x3⟩ ⟨x4,x5⟩
 | _=>[]
def sT_kcarr:Tr:=
(.call 0 (kKn) (.cons (.var 0) (.cons (.bin .or .u64 (.bin .or .u64 (.bin .xor .u64 (.var 0) (.var 1)) (.var 3)) (.var 5)) .nil)) 6
(.leaf (.vs 6 2 .nil)))
def abz:Spec:={F:=fun k=>match k with | 0=>bE | _=>fun _=>[],pre:=fun _ _=>True}
theorem alP:ap tys_KaD [dY 0] [] [] [] 200 Tryz.f243 [.one (.int .u64),.one (.int .u64),.agg kKn,.agg kKn] [.agg kKn] false [.int .u64,.int .u64,.int .u64,.int .u64,.int .u64,.int .u64] sT_kcarr:=⟨by kernel_rfl,by kernel_rfl,by kernel_rfl⟩
theorem alf (v:Int) (hv:inK .u64 v=true) (x:Int) (hx:inK .u64 x=true) (a:Kn) (ha:Kn.ok a) (b:Kn) (hb:Kn.ok b) (U:Env) (g:varsD U 0 [.int .u64,.int .u64,.int .u64,.int .u64,.int .u64,.int .u64]=[.z v,.z x,.z a.v,.z a.m,.z b.v,.z b.m]):sT_kcarr.asks abz (fun U e=>e.D U=kZ [.z v,.z x,.z a.v,.z a.m,.z b.v,.z b.m]) U fun _ _=>False:=by
 simp only[varsD,varD,thm5,gS0,Nat.reduceAdd,and_true] at g
 simp only[sT_kcarr,abz,kKn,bE,dW,kZ,td,simQ,ai,S1,Nat.reduceSub,Nat.reduceAdd,-eq_self,ae,g]
 intro e;(try simp only[e,ae,-eq_self]);clear e
 ·rfl
theorem amd {sp:Spec} {key:Nat} (hF:sp.F key=kZ) (hP:sp.pre key=fun _=>True:=by rfl):SmOk Tryz.prog sp (tY key):=
 aq (s:=tY key) hF hP mxo7 cZ (smc (gg rfl) sm0) Tryz.func243 fn0 alP (.inl rfl) (fun x0 gx0 x1 gx1 x2 gx2 x3 gx3 x4 gx4 x5 gx5 hp U g=>alf x0 gx0 x1 gx1 ⟨x2,x3⟩ ⟨gx2,gx3⟩ ⟨x4,x5⟩ ⟨gx4,gx5⟩ U g)
def zB (key:Nat):Sm:=⟨227,key,[.agg kKn,.agg kKn],[.agg kKn],false⟩
def zf (a:Kn) (b:Kn):List Dt:=[.z ((kadd a b).v),.z ((kadd a b).m)]
def pp:List Dt->List Dt
 | [.z x0,.z x1,.z x2,.z x3]=>zf ⟨x0,x1⟩ ⟨x2,x3⟩
 | _=>[]
def sT_kadd:Tr:=
(.call 0 (kKn) (.cons (.bin .add .u64 (.var 0) (.var 2)) (.cons (.bin .add .u64 (.bin .add .u64 (.var 1) (.var 3)) (.bin .add .u64 (.var 0) (.var 2))) (.vs 0 4 .nil))) 4
(.leaf (.vs 4 2 .nil)))
def ahk:Spec:={F:=fun k=>match k with | 0=>kZ | _=>fun _=>[],pre:=fun _ _=>True}
theorem ara:ap tys_KaD [tY 0] [] [] [] 200 Tryz.f227 [.agg kKn,.agg kKn] [.agg kKn] false [.int .u64,.int .u64,.int .u64,.int .u64] sT_kadd:=⟨by kernel_rfl,by kernel_rfl,by kernel_rfl⟩
theorem aqs (a:Kn) (ha:Kn.ok a) (b:Kn) (hb:Kn.ok b) (U:Env) (g:varsD U 0 [.int .u64,.int .u64,.int .u64,.int .u64]=[.z a.v,.z a.m,.z b.v,.z b.m]):sT_kadd.asks ahk (fun U e=>e.D U=pp [.z a.v,.z a.m,.z b.v,.z b.m]) U fun _ _=>False:=by
 simp only[varsD,varD,thm5,gS0,Nat.reduceAdd,and_true] at g
 simp only[sT_kadd,ahk,kKn,kZ,td,pp,zf,simQ,ai,S1,Nat.reduceSub,Nat.reduceAdd,-eq_self,ae,g]
 intro e;(try simp only[e,ae,-eq_self]);clear e
 ·(unfold kadd;rfl)
theorem arx {sp:Spec} {key:Nat} (hF:sp.F key=pp) (hP:sp.pre key=fun _=>True:=by rfl):SmOk Tryz.prog sp (zB key):=
 aq (s:=zB key) hF hP mxo7 cZ (smc (amd rfl) sm0) Tryz.func227 fn0 ara (.inl rfl) (fun x0 gx0 x1 gx1 x2 gx2 x3 gx3 hp U g=>aqs ⟨x0,x1⟩ ⟨gx0,gx1⟩ ⟨x2,x3⟩ ⟨gx2,gx3⟩ U g)
def tW (key:Nat):Sm:=⟨228,key,[.agg kKn,.agg kKn],[.agg kKn],false⟩
def sY (a:Kn) (b:Kn):List Dt:=[.z ((ksub a b).v),.z ((ksub a b).m)]
def jO:List Dt->List Dt
 | [.z x0,.z x1,.z x2,.z x3]=>sY ⟨x0,x1⟩ ⟨x2,x3⟩
 | _=>[]
def sT_ksub:Tr:=
(.call 0 (kKn) (.cons (.bin .sub .u64 (.var 0) (.var 2)) (.cons (.bin .or .u64 (.bin .or .u64 (.bin .xor .u64 (.bin .add .u64 (.bin .sub .u64 (.var 0) (.var 2)) (.var 1)) (.bin .sub .u64 (.bin .sub .u64 (.var 0) (.var 2)) (.var 3))) (.var 1)) (.var 3)) .nil)) 4
(.leaf (.vs 4 2 .nil)))
def ahb:Spec:={F:=fun k=>match k with | 0=>bE | _=>fun _=>[],pre:=fun _ _=>True}
theorem aq2:ap tys_KaD [dY 0] [] [] [] 200 Tryz.f228 [.agg kKn,.agg kKn] [.agg kKn] false [.int .u64,.int .u64,.int .u64,.int .u64] sT_ksub:=⟨by kernel_rfl,by kernel_rfl,by kernel_rfl⟩
theorem aqk (a:Kn) (ha:Kn.ok a) (b:Kn) (hb:Kn.ok b) (U:Env) (g:varsD U 0 [.int .u64,.int .u64,.int .u64,.int .u64]=[.z a.v,.z a.m,.z b.v,.z b.m]):sT_ksub.asks ahb (fun U e=>e.D U=jO [.z a.v,.z a.m,.z b.v,.z b.m]) U fun _ _=>False:=by
 simp only[varsD,varD,thm5,gS0,Nat.reduceAdd,and_true] at g
 simp only[sT_ksub,ahb,kKn,bE,dW,jO,sY,simQ,ai,S1,Nat.reduceSub,Nat.reduceAdd,-eq_self,ae,g]
 intro e;(try simp only[e,ae,-eq_self]);clear e
 ·(unfold ksub;rfl)
theorem ahX {sp:Spec} {key:Nat} (hF:sp.F key=jO) (hP:sp.pre key=fun _=>True:=by rfl):SmOk Tryz.prog sp (tW key):=
 aq (s:=tW key) hF hP mxo7 cZ (smc (gg rfl) sm0) Tryz.func228 fn0 aq2 (.inl rfl) (fun x0 gx0 x1 gx1 x2 gx2 x3 gx3 hp U g=>aqk ⟨x0,x1⟩ ⟨gx0,gx1⟩ ⟨x2,x3⟩ ⟨gx2,gx3⟩ U g)
def zy (key:Nat):Sm:=⟨231,key,[.agg kKn,.agg kKn],[.agg kKn],false⟩
def zd (a:Kn) (b:Kn):List Dt:=[.z ((ksub (kone 0) a).v),.z ((ksub (kone 0) a).m)]
def pn:List Dt->List Dt
 | [.z x0,.z x1,.z x2,.z x3]=>zd ⟨x0,x1⟩ ⟨x2,x3⟩
 | _=>[]
def sT_kneg:Tr:=
(.call 0 (kKn) (.cons (.lit 0) .nil) 4
(.call 1 (kKn) (.vs 4 2 (.vs 0 2 .nil)) 6
(.leaf (.vs 6 2 .nil))))
def ahe:Spec:={F:=fun k=>match k with | 0=>gm | 1=>jO | _=>fun _=>[],pre:=fun _ _=>True}
theorem aq5:ap tys_KaD [oN 0,tW 1] [] [] [] 200 Tryz.f231 [.agg kKn,.agg kKn] [.agg kKn] false [.int .u64,.int .u64,.int .u64,.int .u64] sT_kneg:=⟨by kernel_rfl,by kernel_rfl,by kernel_rfl⟩
theorem aqn (a:Kn) (ha:Kn.ok a) (b:Kn) (hb:Kn.ok b) (U:Env) (g:varsD U 0 [.int .u64,.int .u64,.int .u64,.int .u64]=[.z a.v,.z a.m,.z b.v,.z b.m]):sT_kneg.asks ahe (fun U e=>e.D U=pn [.z a.v,.z a.m,.z b.v,.z b.m]) U fun _ _=>False:=by
 simp only[varsD,varD,thm5,gS0,Nat.reduceAdd,and_true] at g
 simp only[sT_kneg,ahe,kKn,gm,jO,ow,sY,pn,zd,simQ,ai,S1,Nat.reduceSub,Nat.reduceAdd,-eq_self,ae,g]
 intro e;(try simp only[e,ae,-eq_self]);clear e
 intro e;(try simp only[e,ae,-eq_self]);clear e
 ·rfl
theorem arv {sp:Spec} {key:Nat} (hF:sp.F key=pn) (hP:sp.pre key=fun _=>True:=by rfl):SmOk Tryz.prog sp (zy key):=
 aq (s:=zy key) hF hP mxo7 cZ (smc (zF rfl) (smc (ahX rfl) sm0)) Tryz.func231 fn0 aq5 (.inl rfl) (fun x0 gx0 x1 gx1 x2 gx2 x3 gx3 hp U g=>aqn ⟨x0,x1⟩ ⟨gx0,gx1⟩ ⟨x2,x3⟩ ⟨gx2,gx3⟩ U g)
def zA (key:Nat):Sm:=⟨230,key,[.agg kKn,.agg kKn],[.agg kKn],false⟩
def ze (a:Kn) (b:Kn):List Dt:=[.z ((kand a b).v),.z ((kand a b).m)]
def po:List Dt->List Dt
 | [.z x0,.z x1,.z x2,.z x3]=>ze ⟨x0,x1⟩ ⟨x2,x3⟩
 | _=>[]
def sT_kand:Tr:=
(.leaf (.cons (.bin .and .u64 (.var 0) (.var 2)) (.cons (.bin .andNot .u64 (.bin .and .u64 (.bin .or .u64 (.var 0) (.var 1)) (.bin .or .u64 (.var 2) (.var 3))) (.bin .and .u64 (.var 0) (.var 2))) .nil)))
def ahh:Spec:={F:=fun k=>match k with | _=>fun _=>[],pre:=fun _ _=>True}
theorem aq8:ap tys_KaD [] [] [] [] 200 Tryz.f230 [.agg kKn,.agg kKn] [.agg kKn] false [.int .u64,.int .u64,.int .u64,.int .u64] sT_kand:=⟨by kernel_rfl,by kernel_rfl,by kernel_rfl⟩
theorem aqq (a:Kn) (ha:Kn.ok a) (b:Kn) (hb:Kn.ok b) (U:Env) (g:varsD U 0 [.int .u64,.int .u64,.int .u64,.int .u64]=[.z a.v,.z a.m,.z b.v,.z b.m]):sT_kand.asks ahh (fun U e=>e.D U=po [.z a.v,.z a.m,.z b.v,.z b.m]) U fun _ _=>False:=by
 simp only[varsD,varD,thm5,gS0,Nat.reduceAdd,and_true] at g
 simp only[sT_kand,ahh,po,ze,simQ,ai,S1,Nat.reduceSub,Nat.reduceAdd,-eq_self,Kn.eta,Sc.eta_r,Sc.eta_k,Sc.eta_2,g]
 ·rfl
theorem arw {sp:Spec} {key:Nat} (hF:sp.F key=po) (hP:sp.pre key=fun _=>True:=by rfl):SmOk Tryz.prog sp (zA key):=
 aq (s:=zA key) hF hP mxo7 cZ (sm0) Tryz.func230 fn0 aq8 (.inl rfl) (fun x0 gx0 x1 gx1 x2 gx2 x3 gx3 hp U g=>aqq ⟨x0,x1⟩ ⟨gx0,gx1⟩ ⟨x2,x3⟩ ⟨gx2,gx3⟩ U g)
def ahx (key:Nat):Sm:=⟨229,key,[.agg kKn,.agg kKn],[.agg kKn],false⟩
def agr (a:Kn) (b:Kn):List Dt:=[.z ((kor a b).v),.z ((kor a b).m)]
def xi:List Dt->List Dt
 | [.z x0,.z x1,.z x2,.z x3]=>agr ⟨x0,x1⟩ ⟨x2,x3⟩
 | _=>[]
def sT_kor:Tr:=
(.leaf (.cons (.bin .or .u64 (.var 0) (.var 2)) (.cons (.bin .andNot .u64 (.bin .or .u64 (.var 1) (.var 3)) (.bin .or .u64 (.var 0) (.var 2))) .nil)))
def anQ:Spec:={F:=fun k=>match k with | _=>fun _=>[],pre:=fun _ _=>True}
theorem atI:ap tys_KaD [] [] [] [] 200 Tryz.f229 [.agg kKn,.agg kKn] [.agg kKn] false [.int .u64,.int .u64,.int .u64,.int .u64] sT_kor:=⟨by kernel_rfl,by kernel_rfl,by kernel_rfl⟩
theorem atk (a:Kn) (ha:Kn.ok a) (b:Kn) (hb:Kn.ok b) (U:Env) (g:varsD U 0 [.int .u64,.int .u64,.int .u64,.int .u64]=[.z a.v,.z a.m,.z b.v,.z b.m]):sT_kor.asks anQ (fun U e=>e.D U=xi [.z a.v,.z a.m,.z b.v,.z b.m]) U fun _ _=>False:=by
 simp only[varsD,varD,thm5,gS0,Nat.reduceAdd,and_true] at g
 simp only[sT_kor,anQ,xi,agr,simQ,ai,S1,Nat.reduceSub,Nat.reduceAdd,-eq_self,Kn.eta,Sc.eta_r,Sc.eta_k,Sc.eta_2,g]
 ·rfl
theorem at8 {sp:Spec} {key:Nat} (hF:sp.F key=xi) (hP:sp.pre key=fun _=>True:=by rfl):SmOk Tryz.prog sp (ahx key):=
 aq (s:=ahx key) hF hP mxo7 cZ (sm0) Tryz.func229 fn0 atI (.inl rfl) (fun x0 gx0 x1 gx1 x2 gx2 x3 gx3 hp U g=>atk ⟨x0,x1⟩ ⟨gx0,gx1⟩ ⟨x2,x3⟩ ⟨gx2,gx3⟩ U g)
def zw (key:Nat):Sm:=⟨232,key,[.agg kKn,.agg kKn],[.agg kKn],false⟩
def za (a:Kn) (b:Kn):List Dt:=[.z ((kxor a b).v),.z ((kxor a b).m)]
def pk:List Dt->List Dt
 | [.z x0,.z x1,.z x2,.z x3]=>za ⟨x0,x1⟩ ⟨x2,x3⟩
 | _=>[]
def sT_kxor:Tr:=
(.call 0 (kKn) (.cons (.bin .xor .u64 (.var 0) (.var 2)) (.cons (.bin .or .u64 (.var 1) (.var 3)) .nil)) 4
(.leaf (.vs 4 2 .nil)))
def aha:Spec:={F:=fun k=>match k with | 0=>bE | _=>fun _=>[],pre:=fun _ _=>True}
theorem aq1:ap tys_KaD [dY 0] [] [] [] 200 Tryz.f232 [.agg kKn,.agg kKn] [.agg kKn] false [.int .u64,.int .u64,.int .u64,.int .u64] sT_kxor:=⟨by kernel_rfl,by kernel_rfl,by kernel_rfl⟩
theorem aqj (a:Kn) (ha:Kn.ok a) (b:Kn) (hb:Kn.ok b) (U:Env) (g:varsD U 0 [.int .u64,.int .u64,.int .u64,.int .u64]=[.z a.v,.z a.m,.z b.v,.z b.m]):sT_kxor.asks aha (fun U e=>e.D U=pk [.z a.v,.z a.m,.z b.v,.z b.m]) U fun _ _=>False:=by
 simp only[varsD,varD,thm5,gS0,Nat.reduceAdd,and_true] at g
 simp only[sT_kxor,aha,kKn,bE,dW,pk,za,simQ,ai,S1,Nat.reduceSub,Nat.reduceAdd,-eq_self,ae,g]
 intro e;(try simp only[e,ae,-eq_self]);clear e
 ·rfl
theorem art {sp:Spec} {key:Nat} (hF:sp.F key=pk) (hP:sp.pre key=fun _=>True:=by rfl):SmOk Tryz.prog sp (zw key):=
 aq (s:=zw key) hF hP mxo7 cZ (smc (gg rfl) sm0) Tryz.func232 fn0 aq1 (.inl rfl) (fun x0 gx0 x1 gx1 x2 gx2 x3 gx3 hp U g=>aqj ⟨x0,x1⟩ ⟨gx0,gx1⟩ ⟨x2,x3⟩ ⟨gx2,gx3⟩ U g)
def zx (key:Nat):Sm:=⟨233,key,[.agg kKn,.agg kKn],[.agg kKn],false⟩
def zc (a:Kn) (b:Kn):List Dt:=[.z b.v,.z b.m]
def pm:List Dt->List Dt
 | [.z x0,.z x1,.z x2,.z x3]=>zc ⟨x0,x1⟩ ⟨x2,x3⟩
 | _=>[]
def sT_ksec:Tr:=
(.leaf (.vs 2 2 .nil))
def ahc:Spec:={F:=fun k=>match k with | _=>fun _=>[],pre:=fun _ _=>True}
theorem aq3:ap tys_KaD [] [] [] [] 200 Tryz.f233 [.agg kKn,.agg kKn] [.agg kKn] false [.int .u64,.int .u64,.int .u64,.int .u64] sT_ksec:=⟨by kernel_rfl,by kernel_rfl,by kernel_rfl⟩
theorem aql (a:Kn) (ha:Kn.ok a) (b:Kn) (hb:Kn.ok b) (U:Env) (g:varsD U 0 [.int .u64,.int .u64,.int .u64,.int .u64]=[.z a.v,.z a.m,.z b.v,.z b.m]):sT_ksec.asks ahc (fun U e=>e.D U=pm [.z a.v,.z a.m,.z b.v,.z b.m]) U fun _ _=>False:=by
 simp only[varsD,varD,thm5,gS0,Nat.reduceAdd,and_true] at g
 simp only[sT_ksec,ahc,pm,zc,simQ,ai,S1,Nat.reduceSub,Nat.reduceAdd,-eq_self,Kn.eta,Sc.eta_r,Sc.eta_k,Sc.eta_2,g]
 ·rfl
theorem aru {sp:Spec} {key:Nat} (hF:sp.F key=pm) (hP:sp.pre key=fun _=>True:=by rfl):SmOk Tryz.prog sp (zx key):=
 aq (s:=zx key) hF hP mxo7 cZ (sm0) Tryz.func233 fn0 aq3 (.inl rfl) (fun x0 gx0 x1 gx1 x2 gx2 x3 gx3 hp U g=>aql ⟨x0,x1⟩ ⟨gx0,gx1⟩ ⟨x2,x3⟩ ⟨gx2,gx3⟩ U g)
def ahz (key:Nat):Sm:=⟨189,key,[.one (.int .i8),.one (.int .i8),.agg kKn,.agg kKn],[.agg kKn],false⟩
def agt (op:Int) (l:Int) (a:Kn) (b:Kn):List Dt:=[.z ((kdo op l a b).v),.z ((kdo op l a b).m)]
def xk:List Dt->List Dt
 | [.z x0,.z x1,.z x2,.z x3,.z x4,.z x5]=>agt x0 x1 ⟨x2,x3⟩ ⟨x4,x5⟩
 | _=>[]
def uY:Tr:=(.call 2 (kKn) (.vs 14 2 (.cons (.var 1) .nil)) 16
(.leaf (.vs 16 2 .nil)))
def aea:Tr:=(.call 2 (kKn) (.vs 12 2 (.cons (.var 1) .nil)) 14
(.leaf (.vs 14 2 .nil)))
def ao4:E:=(.cons (.bin .and .u64 (.var 10) (.bin .sub .u64 (.conv .u64 (.var 1)) (.lit 1))) .nil)
def aj7:Tr:=(.br (.eq (.bin .and .u64 (.var 11) (.bin .sub .u64 (.conv .u64 (.var 1)) (.lit 1))) (.lit 0))
(.call 3 [.int .u64,.int .i64] (.vs 0 2 (.cons (.var 8) ao4)) 14
(.call 3 [.int .u64,.int .i64] (.vs 0 2 (.cons (.var 9) ao4)) 16
(.call 5 (kKn) (.cons (.var 14) (.cons (.var 16) .nil)) 18
(.call 2 (kKn) (.vs 18 2 (.cons (.var 1) .nil)) 20
(.leaf (.vs 20 2 .nil))))))
 aea)
def ao5:Tr:=(.call 2 (kKn) (.vs 2 2 (.cons (.var 1) .nil)) 8
(.call 2 (kKn) (.vs 4 2 (.cons (.var 1) .nil)) 10
(.br (.eq (.bin .or .u64 (.var 9) (.var 11)) (.lit 0))
(.call 3 [.int .u64,.int .i64] (.vs 0 2 (.cons (.var 8) (.cons (.var 10) .nil))) 12
(.call 4 (kKn) (.cons (.var 12) .nil) 14
(.leaf (.vs 14 2 .nil))))
(.call 1 (kKn) .nil 12
(.br (.eq (.var 0) (.lit 6))
 aj7
(.br (.eq (.var 0) (.lit 7))
 aj7
(.br (.eq (.var 0) (.lit 12))
 aj7
(.br (.eq (.var 0) (.lit 0))
(.call 6 (kKn) (.vs 8 4 .nil) 14
 uY)
(.br (.eq (.var 0) (.lit 1))
(.call 7 (kKn) (.vs 8 4 .nil) 14
 uY)
(.br (.eq (.var 0) (.lit 2))
 aea
(.br (.eq (.var 0) (.lit 3))
 aea
(.br (.eq (.var 0) (.lit 4))
(.call 8 (kKn) (.vs 8 4 .nil) 14
 uY)
(.br (.eq (.var 0) (.lit 5))
(.call 9 (kKn) (.vs 8 4 .nil) 14
 uY)
(.br (.eq (.var 0) (.lit 8))
(.call 10 (kKn) (.vs 8 4 .nil) 14
 uY)
(.br (.eq (.var 0) (.lit 9))
 aea
(.br (.eq (.var 0) (.lit 10))
(.call 11 (kKn) (.vs 8 4 .nil) 14
 uY)
(.br (.eq (.var 0) (.lit 11))
(.call 12 (kKn) (.vs 8 4 .nil) 14
 uY)
.panic)))))))))))))))))
def sT_kdo:Tr:=
(.call 0 [.bool] (.vs 2 2 .nil) 6
(.br (.bw 6)
(.call 0 [.bool] (.vs 4 2 .nil) 7
(.br (.bw 7)
(.br (.lt (.var 0) (.lit 0))
(.call 1 (kKn) .nil 8
(.leaf (.vs 8 2 .nil)))
(.br (.lt (.lit 12) (.var 0))
(.call 1 (kKn) .nil 8
(.leaf (.vs 8 2 .nil)))
(.br (.eq (.var 1) (.lit 32))
 ao5
(.br (.eq (.var 1) (.lit 64))
 ao5
(.call 1 (kKn) .nil 8
(.leaf (.vs 8 2 .nil)))))))
(.call 1 (kKn) .nil 8
(.leaf (.vs 8 2 .nil)))))
(.call 1 (kKn) .nil 7
(.leaf (.vs 7 2 .nil)))))
def anS:Spec:={F:=fun k=>match k with | 0=>cN | 1=>cO | 2=>jP | 3=>mo | 4=>gm | 5=>bE | 6=>pp | 7=>jO | 8=>xi | 9=>po | 10=>pn | 11=>pk | 12=>pm | _=>fun _=>[],pre:=fun _ _=>True}
theorem atK:ap tys_KaD [ia 0,ib 1,tX 2,oS 3,oN 4,dY 5,zB 6,tW 7,ahx 8,zA 9,zy 10,zw 11,zx 12] [] [] [] 200 Tryz.f189 [.one (.int .i8),.one (.int .i8),.agg kKn,.agg kKn] [.agg kKn] false [.int .i8,.int .i8,.int .u64,.int .u64,.int .u64,.int .u64] sT_kdo:=⟨by kernel_rfl,by kernel_rfl,by kernel_rfl⟩
theorem atm (op:Int) (hop:inK .i8 op=true) (l:Int) (hl:inK .i8 l=true) (a:Kn) (ha:Kn.ok a) (b:Kn) (hb:Kn.ok b) (U:Env) (g:varsD U 0 [.int .i8,.int .i8,.int .u64,.int .u64,.int .u64,.int .u64]=[.z op,.z l,.z a.v,.z a.m,.z b.v,.z b.m]):sT_kdo.asks anS (fun U e=>e.D U=xk [.z op,.z l,.z a.v,.z a.m,.z b.v,.z b.m]) U fun _ _=>False:=by
 simp only[varsD,varD,thm5,gS0,Nat.reduceAdd,and_true] at g
 simp only[sT_kdo,ao5,aj7,ao4,aea,uY,anS,kKn,cN,cO,jP,mo,gm,bE,pp,jO,xi,po,pn,pk,pm,gZ,sZ,oA,ow,dW,zf,sY,agr,ze,zd,za,zc,xk,agt,simQ,ai,S1,Nat.reduceSub,Nat.reduceAdd,-eq_self,ae,g]
 intro e;(try simp only[e,ae,-eq_self]);clear e
 constructor<;>intro c0
 intro e;(try simp only[e,ae,-eq_self]);clear e
 constructor<;>intro c1
 constructor<;>intro c2
 intro e;(try simp only[e,ae,-eq_self]);clear e
 ·exact aS (xU (avV c2))
 constructor<;>intro c3
 intro e;(try simp only[e,ae,-eq_self]);clear e
 ·exact aS (xU (avW c3))
 constructor<;>intro c4
 intro e;(try simp only[e,ae,-eq_self]);clear e
 intro e;(try simp only[e,ae,-eq_self]);clear e
 constructor<;>intro c5
 intro e;(try simp only[e,ae,-eq_self]);clear e
 intro e;(try simp only[e,ae,-eq_self]);clear e
 ·(obtain rfl:=eqz c4;have hg:=cu c0 c1 c2 c3 (l:=32) rfl;exact aS (aoc hg c5))
 intro e;(try simp only[e,ae,-eq_self]);clear e
 constructor<;>intro c6
 constructor<;>intro c7
 intro e;(try simp only[e,ae,-eq_self]);clear e
 intro e;(try simp only[e,ae,-eq_self]);clear e
 intro e;(try simp only[e,ae,-eq_self]);clear e
 intro e;(try simp only[e,ae,-eq_self]);clear e
 ·(obtain rfl:=eqz c4;have hg:=cu c0 c1 c2 c3 (l:=32) rfl;obtain rfl:=eqz c6;exact aS (cG hg c5 (adw (by decide) c7)))
 intro e;(try simp only[e,ae,-eq_self]);clear e
 ·(obtain rfl:=eqz c4;have hg:=cu c0 c1 c2 c3 (l:=32) rfl;obtain rfl:=eqz c6;exact aS (cG hg c5 (adx (by decide) c7)))
 constructor<;>intro c8
 constructor<;>intro c9
 intro e;(try simp only[e,ae,-eq_self]);clear e
 intro e;(try simp only[e,ae,-eq_self]);clear e
 intro e;(try simp only[e,ae,-eq_self]);clear e
 intro e;(try simp only[e,ae,-eq_self]);clear e
 ·(obtain rfl:=eqz c4;have hg:=cu c0 c1 c2 c3 (l:=32) rfl;obtain rfl:=eqz c8;exact aS (cG hg c5 (adw (by decide) c9)))
 intro e;(try simp only[e,ae,-eq_self]);clear e
 ·(obtain rfl:=eqz c4;have hg:=cu c0 c1 c2 c3 (l:=32) rfl;obtain rfl:=eqz c8;exact aS (cG hg c5 (adx (by decide) c9)))
 constructor<;>intro c10
 constructor<;>intro c11
 intro e;(try simp only[e,ae,-eq_self]);clear e
 intro e;(try simp only[e,ae,-eq_self]);clear e
 intro e;(try simp only[e,ae,-eq_self]);clear e
 intro e;(try simp only[e,ae,-eq_self]);clear e
 ·(obtain rfl:=eqz c4;have hg:=cu c0 c1 c2 c3 (l:=32) rfl;obtain rfl:=eqz c10;exact aS (cG hg c5 (adw (by decide) c11)))
 intro e;(try simp only[e,ae,-eq_self]);clear e
 ·(obtain rfl:=eqz c4;have hg:=cu c0 c1 c2 c3 (l:=32) rfl;obtain rfl:=eqz c10;exact aS (cG hg c5 (adx (by decide) c11)))
 constructor<;>intro c12
 intro e;(try simp only[e,ae,-eq_self]);clear e
 intro e;(try simp only[e,ae,-eq_self]);clear e
 ·(obtain rfl:=eqz c4;have hg:=cu c0 c1 c2 c3 (l:=32) rfl;obtain rfl:=eqz c12;exact aS (cG hg c5 rfl))
 constructor<;>intro c13
 intro e;(try simp only[e,ae,-eq_self]);clear e
 intro e;(try simp only[e,ae,-eq_self]);clear e
 ·(obtain rfl:=eqz c4;have hg:=cu c0 c1 c2 c3 (l:=32) rfl;obtain rfl:=eqz c13;exact aS (cG hg c5 rfl))
 constructor<;>intro c14
 intro e;(try simp only[e,ae,-eq_self]);clear e
 ·(obtain rfl:=eqz c4;have hg:=cu c0 c1 c2 c3 (l:=32) rfl;obtain rfl:=eqz c14;exact aS (cG hg c5 rfl))
 constructor<;>intro c15
 intro e;(try simp only[e,ae,-eq_self]);clear e
 ·(obtain rfl:=eqz c4;have hg:=cu c0 c1 c2 c3 (l:=32) rfl;obtain rfl:=eqz c15;exact aS (cG hg c5 rfl))
 constructor<;>intro c16
 intro e;(try simp only[e,ae,-eq_self]);clear e
 intro e;(try simp only[e,ae,-eq_self]);clear e
 ·(obtain rfl:=eqz c4;have hg:=cu c0 c1 c2 c3 (l:=32) rfl;obtain rfl:=eqz c16;exact aS (cG hg c5 rfl))
 constructor<;>intro c17
 intro e;(try simp only[e,ae,-eq_self]);clear e
 intro e;(try simp only[e,ae,-eq_self]);clear e
 ·(obtain rfl:=eqz c4;have hg:=cu c0 c1 c2 c3 (l:=32) rfl;obtain rfl:=eqz c17;exact aS (cG hg c5 rfl))
 constructor<;>intro c18
 intro e;(try simp only[e,ae,-eq_self]);clear e
 intro e;(try simp only[e,ae,-eq_self]);clear e
 ·(obtain rfl:=eqz c4;have hg:=cu c0 c1 c2 c3 (l:=32) rfl;obtain rfl:=eqz c18;exact aS (cG hg c5 rfl))
 constructor<;>intro c19
 intro e;(try simp only[e,ae,-eq_self]);clear e
 ·(obtain rfl:=eqz c4;have hg:=cu c0 c1 c2 c3 (l:=32) rfl;obtain rfl:=eqz c19;exact aS (cG hg c5 rfl))
 constructor<;>intro c20
 intro e;(try simp only[e,ae,-eq_self]);clear e
 intro e;(try simp only[e,ae,-eq_self]);clear e
 ·(obtain rfl:=eqz c4;have hg:=cu c0 c1 c2 c3 (l:=32) rfl;obtain rfl:=eqz c20;exact aS (cG hg c5 rfl))
 constructor<;>intro c21
 intro e;(try simp only[e,ae,-eq_self]);clear e
 intro e;(try simp only[e,ae,-eq_self]);clear e
 ·(obtain rfl:=eqz c4;have hg:=cu c0 c1 c2 c3 (l:=32) rfl;obtain rfl:=eqz c21;exact aS (cG hg c5 rfl))
 ·(have h2:=thm2 c2;have h3:=thm2 c3;have h10:=nez c6;have h11:=nez c8;have h12:=nez c10;have h13:=nez c12;have h14:=nez c13;have h15:=nez c14;have h16:=nez c15;have h17:=nez c16;have h18:=nez c17;have h19:=nez c18;have h20:=nez c19;have h21:=nez c20;have h22:=nez c21;omega)
 constructor<;>intro c22
 intro e;(try simp only[e,ae,-eq_self]);clear e
 intro e;(try simp only[e,ae,-eq_self]);clear e
 constructor<;>intro c23
 intro e;(try simp only[e,ae,-eq_self]);clear e
 intro e;(try simp only[e,ae,-eq_self]);clear e
 ·(obtain rfl:=eqz c22;have hg:=cu c0 c1 c2 c3 (l:=64) rfl;exact aS (aoc hg c23))
 intro e;(try simp only[e,ae,-eq_self]);clear e
 constructor<;>intro c24
 constructor<;>intro c25
 intro e;(try simp only[e,ae,-eq_self]);clear e
 intro e;(try simp only[e,ae,-eq_self]);clear e
 intro e;(try simp only[e,ae,-eq_self]);clear e
 intro e;(try simp only[e,ae,-eq_self]);clear e
 ·(obtain rfl:=eqz c22;have hg:=cu c0 c1 c2 c3 (l:=64) rfl;obtain rfl:=eqz c24;exact aS (cG hg c23 (adw (by decide) c25)))
 intro e;(try simp only[e,ae,-eq_self]);clear e
 ·(obtain rfl:=eqz c22;have hg:=cu c0 c1 c2 c3 (l:=64) rfl;obtain rfl:=eqz c24;exact aS (cG hg c23 (adx (by decide) c25)))
 constructor<;>intro c26
 constructor<;>intro c27
 intro e;(try simp only[e,ae,-eq_self]);clear e
 intro e;(try simp only[e,ae,-eq_self]);clear e
 intro e;(try simp only[e,ae,-eq_self]);clear e
 intro e;(try simp only[e,ae,-eq_self]);clear e
 ·(obtain rfl:=eqz c22;have hg:=cu c0 c1 c2 c3 (l:=64) rfl;obtain rfl:=eqz c26;exact aS (cG hg c23 (adw (by decide) c27)))
 intro e;(try simp only[e,ae,-eq_self]);clear e
 ·(obtain rfl:=eqz c22;have hg:=cu c0 c1 c2 c3 (l:=64) rfl;obtain rfl:=eqz c26;exact aS (cG hg c23 (adx (by decide) c27)))
 constructor<;>intro c28
 constructor<;>intro c29
 intro e;(try simp only[e,ae,-eq_self]);clear e
 intro e;(try simp only[e,ae,-eq_self]);clear e
 intro e;(try simp only[e,ae,-eq_self]);clear e
 intro e;(try simp only[e,ae,-eq_self]);clear e
 ·(obtain rfl:=eqz c22;have hg:=cu c0 c1 c2 c3 (l:=64) rfl;obtain rfl:=eqz c28;exact aS (cG hg c23 (adw (by decide) c29)))
 intro e;(try simp only[e,ae,-eq_self]);clear e
 ·(obtain rfl:=eqz c22;have hg:=cu c0 c1 c2 c3 (l:=64) rfl;obtain rfl:=eqz c28;exact aS (cG hg c23 (adx (by decide) c29)))
 constructor<;>intro c30
 intro e;(try simp only[e,ae,-eq_self]);clear e
 intro e;(try simp only[e,ae,-eq_self]);clear e
 ·(obtain rfl:=eqz c22;have hg:=cu c0 c1 c2 c3 (l:=64) rfl;obtain rfl:=eqz c30;exact aS (cG hg c23 rfl))
 constructor<;>intro c31
 intro e;(try simp only[e,ae,-eq_self]);clear e
 intro e;(try simp only[e,ae,-eq_self]);clear e
 ·(obtain rfl:=eqz c22;have hg:=cu c0 c1 c2 c3 (l:=64) rfl;obtain rfl:=eqz c31;exact aS (cG hg c23 rfl))
 constructor<;>intro c32
 intro e;(try simp only[e,ae,-eq_self]);clear e
 ·(obtain rfl:=eqz c22;have hg:=cu c0 c1 c2 c3 (l:=64) rfl;obtain rfl:=eqz c32;exact aS (cG hg c23 rfl))
 constructor<;>intro c33
 intro e;(try simp only[e,ae,-eq_self]);clear e
 ·(obtain rfl:=eqz c22;have hg:=cu c0 c1 c2 c3 (l:=64) rfl;obtain rfl:=eqz c33;exact aS (cG hg c23 rfl))
 constructor<;>intro c34
 intro e;(try simp only[e,ae,-eq_self]);clear e
 intro e;(try simp only[e,ae,-eq_self]);clear e
 ·(obtain rfl:=eqz c22;have hg:=cu c0 c1 c2 c3 (l:=64) rfl;obtain rfl:=eqz c34;exact aS (cG hg c23 rfl))
 constructor<;>intro c35
 intro e;(try simp only[e,ae,-eq_self]);clear e
 intro e;(try simp only[e,ae,-eq_self]);clear e
 ·(obtain rfl:=eqz c22;have hg:=cu c0 c1 c2 c3 (l:=64) rfl;obtain rfl:=eqz c35;exact aS (cG hg c23 rfl))
 constructor<;>intro c36
 intro e;(try simp only[e,ae,-eq_self]);clear e
 intro e;(try simp only[e,ae,-eq_self]);clear e
 ·(obtain rfl:=eqz c22;have hg:=cu c0 c1 c2 c3 (l:=64) rfl;obtain rfl:=eqz c36;exact aS (cG hg c23 rfl))
 constructor<;>intro c37
 intro e;(try simp only[e,ae,-eq_self]);clear e
 ·(obtain rfl:=eqz c22;have hg:=cu c0 c1 c2 c3 (l:=64) rfl;obtain rfl:=eqz c37;exact aS (cG hg c23 rfl))
 constructor<;>intro c38
 intro e;(try simp only[e,ae,-eq_self]);clear e
 intro e;(try simp only[e,ae,-eq_self]);clear e
 ·(obtain rfl:=eqz c22;have hg:=cu c0 c1 c2 c3 (l:=64) rfl;obtain rfl:=eqz c38;exact aS (cG hg c23 rfl))
 constructor<;>intro c39
 intro e;(try simp only[e,ae,-eq_self]);clear e
 intro e;(try simp only[e,ae,-eq_self]);clear e
 ·(obtain rfl:=eqz c22;have hg:=cu c0 c1 c2 c3 (l:=64) rfl;obtain rfl:=eqz c39;exact aS (cG hg c23 rfl))
 ·(have h2:=thm2 c2;have h3:=thm2 c3;have h10:=nez c24;have h11:=nez c26;have h12:=nez c28;have h13:=nez c30;have h14:=nez c31;have h15:=nez c32;have h16:=nez c33;have h17:=nez c34;have h18:=nez c35;have h19:=nez c36;have h20:=nez c37;have h21:=nez c38;have h22:=nez c39;omega)
 intro e;(try simp only[e,ae,-eq_self]);clear e
 ·exact aS (xU (kd_w c4 c22))
 intro e;(try simp only[e,ae,-eq_self]);clear e
 ·exact aS (xU (kd_b c1))
 intro e;(try simp only[e,ae,-eq_self]);clear e
 ·exact aS (xU (kd_a c0))
theorem aua {sp:Spec} {key:Nat} (hF:sp.F key=xk) (hP:sp.pre key=fun _=>True:=by rfl):SmOk Tryz.prog sp (ahz key):=
 aq (s:=ahz key) hF hP mxo7 cZ (smc (ml rfl) (smc (mm rfl) (smc (ahY rfl) (smc (arA rfl) (smc (zF rfl) (smc (gg rfl) (smc (arx rfl) (smc (ahX rfl) (smc (at8 rfl) (smc (arw rfl) (smc (arv rfl) (smc (art rfl) (smc (aru rfl) sm0))))))))))))) Tryz.func189 fn0 atK (.inl rfl) (fun x0 gx0 x1 gx1 x2 gx2 x3 gx3 x4 gx4 x5 gx5 hp U g=>atm x0 gx0 x1 gx1 ⟨x2,x3⟩ ⟨gx2,gx3⟩ ⟨x4,x5⟩ ⟨gx4,gx5⟩ U g)
def tys_VaC:List (Nat×TI):=[(2,tiq2),
 (27,ac1),
 (37,gP),
 (42,fF),
 (44,gO),
 (46,kt),
 (48,akp)]
theorem aff:(tys_VaC.all fun p=>ckTI Tryz.prog p.1 p.2)=true:=by kernel_rfl
theorem vE:(tys_VaC.all fun p=>!p.2.eqok)=true:=by kernel_rfl
theorem aeT:(tys_VaC.all fun p=>!p.2.keyok)=true:=by kernel_rfl
theorem vo:∀t i,(t,i)∈tys_VaC->TIok Tryz.prog t i:=by
 intro t i h
 refine bB (cz (f:=ckTI Tryz.prog) aff h) (fun he=> ?_) (fun he=> ?_) (fun he=> ?_)
 ·have h1:=thm7.1 vE (t,i) h
  simp[he] at h1
 ·have h1:=thm7.1 vE (t,i) h
  simp[he] at h1
 ·have h1:=thm7.1 aeT (t,i) h
  simp[he] at h1
def kG (key:Nat):Sm:=⟨25,key,[.one (.int .i8),.one (.int .i8),.one (.lit .u64 0),.one (.lit .u64 0)],[.one (.int .u64),.one (.int .i64)],true⟩
def kA (op:Int) (l:Int):List Dt:=[.z (if okop op l=true then zdo op l 0 0 else 0),.z (if okop op l=true then 0 else 2)]
def iW:List Dt->List Dt
 | [.z x0,.z x1]=>kA x0 x1
 | _=>[]
theorem alm (op:Int) (hop:inK .i8 op=true) (l:Int) (hl:inK .i8 l=true):(∀w,Calls Tryz.prog 25 #[.int .i8 op,.int .i8 l,.int .u64 0,.int .u64 0] w fun e w'=>e=.returned (.tuple #[.int .u64 (if okop op l=true then zdo op l 0 0 else 0),.int .i64 (if okop op l=true then 0 else 2)])/\Ext w w')/\jC (.tuple #[.int .u64 (if okop op l=true then zdo op l 0 0 else 0),.int .i64 (if okop op l=true then 0 else 2)])=true:=by
 exact age op hop l hl 0 (by decide) 0 (by decide)
theorem ami {sp:Spec} {key:Nat} (hF:sp.F key=iW):SmOk Tryz.prog sp (kG key):=by
 refine SmOk.pure hF rfl rfl fun xs vals w h=> ?_
 obtain⟨_,_,_,rfl,⟨x0,rfl,rfl,gx0⟩,h⟩:=h
 obtain⟨_,_,_,rfl,⟨x1,rfl,rfl,gx1⟩,h⟩:=h
 obtain⟨_,_,_,rfl,⟨rfl,rfl⟩,h⟩:=h
 obtain⟨_,_,_,rfl,⟨rfl,rfl⟩,h⟩:=h
 obtain⟨rfl,rfl⟩:=h
 have q:=alm x0 gx0 x1 gx1
 refine⟨_,.inr ⟨dG Tryz.func25 (by kernel_rfl) (by kernel_rfl) _ w,q.1 w⟩,?_,fun U v0 nid j he=> ?_⟩
 ·have q2:=q.2
  simp[jC,iD,iO] at q2
  simp[kG,iW,kA,List.flatMap_cons,List.flatMap_nil,Sh.cks,List.append_nil,List.cons_append,List.nil_append,b2i_one,fQ,q2]
 ·simp only[kG,iW,kA,List.flatMap_cons,List.flatMap_nil,Sh.cks,List.append_nil,List.cons_append,List.nil_append,b2i_one,eqs,dI,dB,bT,nm,bt,Nat.add_zero,Nat.reduceAdd,and_true] at he
  simp[kG,iW,kA,List.flatMap_cons,List.flatMap_nil,Sh.cks,List.append_nil,List.cons_append,List.nil_append,b2i_one,fP,bo,aH,V.den,C.den,denL,den0,bN,E.I,E.B,he]
def ahs (key:Nat):Sm:=⟨143,key,[.one (.int .i8),.one (.int .i8),.agg kSc,.agg kSc],[.agg kSc],false⟩
def agk (op:Int) (l:Int) (a:Sc) (b:Sc):List Dt:=[.z ((vdo op l a b).ul),.z ((vdo op l a b).uh),.z ((vdo op l a b).sl),.z ((vdo op l a b).sh),.z ((vdo op l a b).v),.z ((vdo op l a b).m)]
def xd:List Dt->List Dt
 | [.z x0,.z x1,.z x2,.z x3,.z x4,.z x5,.z x6,.z x7,.z x8,.z x9,.z x10,.z x11,.z x12,.z x13]=>agk x0 x1 ⟨x2,x3,x4,x5,x6,x7⟩ ⟨x8,x9,x10,x11,x12,x13⟩
 | _=>[]
def sT_vdo:Tr:=
(.call 0 [.int .u64,.int .i64] (.vs 0 2 .nil) 14
(.br (.eq (.var 15) (.lit 0))
(.call 1 [.bool] (.vs 2 6 .nil) 16
(.br (.bw 16)
(.call 1 [.bool] (.vs 8 6 .nil) 17
(.br (.bw 17)
(.br (.eq (.var 1) (.lit 64))
(.call 3 (kRg) (.cons (.var 0) (.vs 2 4 (.vs 8 4 .nil))) 18
(.call 4 (kKn) (.vs 0 2 (.vs 6 2 (.vs 12 2 .nil))) 22
(.call 5 (kSc) (.vs 18 6 .nil) 24
(.leaf (.vs 24 6 .nil)))))
(.call 6 (kSc) (.vs 2 6 .nil) 18
(.call 6 (kSc) (.vs 8 6 .nil) 24
(.call 7 (kRg) (.cons (.var 0) (.vs 18 12 .nil)) 30
(.call 4 (kKn) (.vs 0 2 (.vs 22 2 (.vs 28 2 .nil))) 34
(.call 8 (kSc++[.bool]) (.vs 30 6 .nil) 36
(.br (.bw 42)
(.leaf (.vs 36 6 .nil))
(.call 9 (kSc) .nil 43
(.leaf (.vs 43 6 .nil))))))))))
(.call 2 (kSc) .nil 18
(.leaf (.vs 18 6 .nil)))))
(.call 2 (kSc) .nil 17
(.leaf (.vs 17 6 .nil)))))
(.call 2 (kSc) .nil 16
(.leaf (.vs 16 6 .nil)))))
def anF:Spec:={F:=fun k=>match k with | 0=>iW | 1=>cp | 2=>cM | 3=>zI | 4=>xk | 5=>bP | 6=>oX | 7=>kO | 8=>gi | 9=>o8 | _=>fun _=>[],pre:=fun _ _=>True}
theorem atx:ap tys_VaC [kG 0,ge 1,hE 2,alW 3,ahz 4,fc 5,zl 6,tC 7,oF 8,zo 9] [] [] [] 200 Tryz.f143 [.one (.int .i8),.one (.int .i8),.agg kSc,.agg kSc] [.agg kSc] false [.int .i8,.int .i8,.int .u64,.int .u64,.int .i64,.int .i64,.int .u64,.int .u64,.int .u64,.int .u64,.int .i64,.int .i64,.int .u64,.int .u64] sT_vdo:=⟨by kernel_rfl,by kernel_rfl,by kernel_rfl⟩
theorem as8 (op:Int) (hop:inK .i8 op=true) (l:Int) (hl:inK .i8 l=true) (a:Sc) (ha:Sc.ok a) (b:Sc) (hb:Sc.ok b) (U:Env) (g:varsD U 0 [.int .i8,.int .i8,.int .u64,.int .u64,.int .i64,.int .i64,.int .u64,.int .u64,.int .u64,.int .u64,.int .i64,.int .i64,.int .u64,.int .u64]=[.z op,.z l,.z a.ul,.z a.uh,.z a.sl,.z a.sh,.z a.v,.z a.m,.z b.ul,.z b.uh,.z b.sl,.z b.sh,.z b.v,.z b.m]):sT_vdo.asks anF (fun U e=>e.D U=xd [.z op,.z l,.z a.ul,.z a.uh,.z a.sl,.z a.sh,.z a.v,.z a.m,.z b.ul,.z b.uh,.z b.sl,.z b.sh,.z b.v,.z b.m]) U fun _ _=>False:=by
 simp only[varsD,varD,thm5,gS0,Nat.reduceAdd,and_true] at g
 simp only[sT_vdo,anF,kKn,kRg,kSc,iW,cp,cM,zI,xk,bP,oX,kO,gi,o8,kA,fZ,alq,agt,eZ,yT,sJ,ol,xd,agk,simQ,ai,S1,Nat.reduceSub,Nat.reduceAdd,-eq_self,ae,g]
 intro e;(try simp only[e,ae,-eq_self]);clear e
 constructor<;>intro c0
 intro e;(try simp only[e,ae,-eq_self]);clear e
 constructor<;>intro c1
 intro e;(try simp only[e,ae,-eq_self]);clear e
 constructor<;>intro c2
 constructor<;>intro c3
 intro e;(try simp only[e,ae,-eq_self]);clear e
 intro e;(try simp only[e,ae,-eq_self]);clear e
 intro e;(try simp only[e,ae,-eq_self]);clear e
 ·(obtain rfl:=eqz c3;have hk:=ar0 c0;rw[show vdo op 64 a b=vnar (sc (bdo op a.r b.r) (kdo op 64 a.k b.k)) from by unfold vdo;simp[hk,c1,c2]];try rfl)
 intro e;(try simp only[e,ae,-eq_self]);clear e
 intro e;(try simp only[e,ae,-eq_self]);clear e
 intro e;(try simp only[e,ae,-eq_self]);clear e
 intro e;(try simp only[e,ae,-eq_self]);clear e
 intro e;(try simp only[e,ae,-eq_self]);clear e
 constructor<;>intro c4
 ·(have n:=nez c3;have hk:=ar0 c0;have c5:vnok (vhf op l a b)=true:=c4;rw[show vdo op l a b=vnar (vhf op l a b) from by unfold vdo;simp[hk,c1,c2,n,c5]];try rfl)
 intro e;(try simp only[e,ae,-eq_self]);clear e
 ·(have n:=nez c3;have hk:=ar0 c0;have c5:vnok (vhf op l a b)=false:=c4;rw[show vdo op l a b=vbel 4294967295 from by unfold vdo;simp[hk,c1,c2,n,c5]];try rfl)
 intro e;(try simp only[e,ae,-eq_self]);clear e
 ·(rw[show vdo op l a b=vall from by unfold vdo;simp[c2]];try rfl)
 intro e;(try simp only[e,ae,-eq_self]);clear e
 ·(rw[show vdo op l a b=vall from by unfold vdo;simp[c1]];try rfl)
 intro e;(try simp only[e,ae,-eq_self]);clear e
 ·(have hk:=auy c0;rw[show vdo op l a b=vall from by unfold vdo;simp[hk]];try rfl)
theorem atY {sp:Spec} {key:Nat} (hF:sp.F key=xd) (hP:sp.pre key=fun _=>True:=by rfl):SmOk Tryz.prog sp (ahs key):=
 aq (s:=ahs key) hF hP mxo7 vo (smc (ami rfl) (smc (jH rfl) (smc (mi rfl) (smc (aue rfl) (smc (aua rfl) (smc (iT rfl) (smc (ark rfl) (smc (al2 rfl) (smc (zE rfl) (smc (arn rfl) sm0)))))))))) Tryz.func143 fn0 atx (.inl rfl) (fun x0 gx0 x1 gx1 x2 gx2 x3 gx3 x4 gx4 x5 gx5 x6 gx6 x7 gx7 x8 gx8 x9 gx9 x10 gx10 x11 gx11 x12 gx12 x13 gx13 hp U g=>as8 x0 gx0 x1 gx1 ⟨x2,x3,x4,x5,x6,x7⟩ ⟨gx2,gx3,gx4,gx5,gx6,gx7⟩ ⟨x8,x9,x10,x11,x12,x13⟩ ⟨gx8,gx9,gx10,gx11,gx12,gx13⟩ U g)
def tD (key:Nat):Sm:=⟨88,key,[.one (.int .i8),.agg kSc,.agg kSc],[.agg kSc,.one .bool],true⟩
def agj (cc:Int) (a:Sc) (b:Sc):List Dt:=[.z ((vgiv cc a b).ul),.z ((vgiv cc a b).uh),.z ((vgiv cc a b).sl),.z ((vgiv cc a b).sh),.z ((vgiv cc a b).v),.z ((vgiv cc a b).m),.z (b2i (vgok cc a b))]
def ic:List Dt->List Dt
 | [.z x0,.z x1,.z x2,.z x3,.z x4,.z x5,.z x6,.z x7,.z x8,.z x9,.z x10,.z x11,.z x12]=>agj x0 ⟨x1,x2,x3,x4,x5,x6⟩ ⟨x7,x8,x9,x10,x11,x12⟩
 | _=>[]
def sT_vgiv:Tr:=
(.call 0 [.bool] (.vs 1 6 .nil) 13
(.br (.bw 13)
(.call 0 [.bool] (.vs 7 6 .nil) 14
(.br (.bw 14)
(.call 2 (kRg++[.bool]) (.vs 0 5 (.vs 7 4 .nil)) 15
(.br (.bw 19)
(.br (.eq (.var 0) (.lit 0))
(.call 3 (kKn++[.bool]) (.vs 5 2 (.vs 11 2 .nil)) 20
(.br (.bw 22)
(.call 4 (kSc++[.bool]) (.vs 15 4 (.vs 20 2 .nil)) 23
(.leaf (.vs 23 6 (.cb (.bw 29) .nil))))
(.call 1 (kSc) .nil 23
(.leaf (.vs 23 6 (.cb (.tt false) .nil))))))
(.call 4 (kSc++[.bool]) (.vs 15 4 (.vs 5 2 .nil)) 20
(.leaf (.vs 20 6 (.cb (.bw 26) .nil)))))
(.call 1 (kSc) .nil 20
(.leaf (.vs 20 6 (.cb (.tt false) .nil))))))
(.call 1 (kSc) .nil 15
(.leaf (.vs 15 6 (.cb (.tt false) .nil))))))
(.call 1 (kSc) .nil 14
(.leaf (.vs 14 6 (.cb (.tt false) .nil))))))
def agR:Spec:={F:=fun k=>match k with | 0=>cp | 1=>cM | 2=>lf | 3=>gp | 4=>gi | _=>fun _=>[],pre:=fun _ _=>True}
theorem aqJ:ap tys_VaC [ge 0,hE 1,ud 2,nC 3,oF 4] [] [] [] 200 Tryz.f88 [.one (.int .i8),.agg kSc,.agg kSc] [.agg kSc,.one .bool] true [.int .i8,.int .u64,.int .u64,.int .i64,.int .i64,.int .u64,.int .u64,.int .u64,.int .u64,.int .i64,.int .i64,.int .u64,.int .u64] sT_vgiv:=⟨by kernel_rfl,by kernel_rfl,by kernel_rfl⟩
theorem ap1 (cc:Int) (hcc:inK .i8 cc=true) (a:Sc) (ha:Sc.ok a) (b:Sc) (hb:Sc.ok b) (U:Env) (g:varsD U 0 [.int .i8,.int .u64,.int .u64,.int .i64,.int .i64,.int .u64,.int .u64,.int .u64,.int .u64,.int .i64,.int .i64,.int .u64,.int .u64]=[.z cc,.z a.ul,.z a.uh,.z a.sl,.z a.sh,.z a.v,.z a.m,.z b.ul,.z b.uh,.z b.sl,.z b.sh,.z b.v,.z b.m]):sT_vgiv.asks agR (fun U e=>e.D U=ic [.z cc,.z a.ul,.z a.uh,.z a.sl,.z a.sh,.z a.v,.z a.m,.z b.ul,.z b.uh,.z b.sl,.z b.sh,.z b.v,.z b.m]) U fun _ _=>False:=by
 simp only[varsD,varD,thm5,gS0,Nat.reduceAdd,and_true] at g
 simp only[sT_vgiv,agR,kKn,kRg,kSc,cp,cM,lf,gp,gi,fZ,tk,nv,ol,ic,agj,simQ,ai,S1,Nat.reduceSub,Nat.reduceAdd,-eq_self,ae,g]
 intro e;(try simp only[e,ae,-eq_self]);clear e
 constructor<;>intro c0
 intro e;(try simp only[e,ae,-eq_self]);clear e
 constructor<;>intro c1
 intro e;(try simp only[e,ae,-eq_self]);clear e
 constructor<;>intro c2
 constructor<;>intro c3
 intro e;(try simp only[e,ae,-eq_self]);clear e
 constructor<;>intro c4
 intro e;(try simp only[e,ae,-eq_self]);clear e
 ·(have q:=vg_0 c0 c1 c2 c3 c4;rw[q.1,q.2];try rfl)
 intro e;(try simp only[e,ae,-eq_self]);clear e
 ·(have q:=vg_f (cc:=cc) (a:=a) (b:=b) (.inr (.inr (.inr ⟨c3,c4⟩)));rw[q.1,q.2];try rfl)
 intro e;(try simp only[e,ae,-eq_self]);clear e
 ·(have q:=vg_n c0 c1 c2 c3;rw[q.1,q.2];try rfl)
 intro e;(try simp only[e,ae,-eq_self]);clear e
 ·(have q:=vg_f (cc:=cc) (a:=a) (b:=b) (.inr (.inr (.inl c2)));rw[q.1,q.2];try rfl)
 intro e;(try simp only[e,ae,-eq_self]);clear e
 ·(have q:=vg_f (cc:=cc) (a:=a) (b:=b) (.inr (.inl c1));rw[q.1,q.2];try rfl)
 intro e;(try simp only[e,ae,-eq_self]);clear e
 ·(have q:=vg_f (cc:=cc) (a:=a) (b:=b) (.inl c0);rw[q.1,q.2];try rfl)
theorem ahF {sp:Spec} {key:Nat} (hF:sp.F key=ic) (hP:sp.pre key=fun _=>True:=by rfl):SmOk Tryz.prog sp (tD key):=
 aq (s:=tD key) hF hP mxo7 vo (smc (jH rfl) (smc (mi rfl) (smc (amh rfl) (smc (abL rfl) (smc (zE rfl) sm0))))) Tryz.func88 fn0 aqJ (.inl rfl) (fun x0 gx0 x1 gx1 x2 gx2 x3 gx3 x4 gx4 x5 gx5 x6 gx6 x7 gx7 x8 gx8 x9 gx9 x10 gx10 x11 gx11 x12 gx12 hp U g=>ap1 x0 gx0 ⟨x1,x2,x3,x4,x5,x6⟩ ⟨gx1,gx2,gx3,gx4,gx5,gx6⟩ ⟨x7,x8,x9,x10,x11,x12⟩ ⟨gx7,gx8,gx9,gx10,gx11,gx12⟩ U g)
def rdZ (k:Int->List Dt->List Dt):List Dt->List Dt
 | .z x::r=>k x r
 | _=>[]
def rdB (k:Bool->List Dt->List Dt):List Dt->List Dt
 | .z x::r=>k (x==1) r
 | _=>[]
theorem Ty.eta (a:Ty):(⟨a.k,a.ul,a.uh,a.sl,a.sh,a.v,a.m,a.lo,a.hi⟩:Ty)=a:=rfl
def cY (k:Ty->List Dt->List Dt):List Dt->List Dt
 | .z z0::.z z1::.z z2::.z z3::.z z4::.z z5::.z z6::.z z7::.z z8::r=>k ⟨z0,z1,z2,z3,z4,z5,z6,z7,z8⟩ r
 | _=>[]
def Ty.ok (a:Ty):Prop:=inK .i8 a.k=true/\inK .u64 a.ul=true/\inK .u64 a.uh=true/\inK .i64 a.sl=true/\inK .i64 a.sh=true/\inK .u64 a.v=true/\inK .u64 a.m=true/\inK .i64 a.lo=true/\inK .i64 a.hi=true
def kTy:List CK:=[.int .i8,.int .u64,.int .u64,.int .i64,.int .i64,.int .u64,.int .u64,.int .i64,.int .i64]
def v_Ty (t:List VK):List VK:=.int .i8::.int .u64::.int .u64::.int .i64::.int .i64::.int .u64::.int .u64::.int .i64::.int .i64::t
def d_Ty (a:Ty) (t:List Dt):List Dt:=.z a.k::.z a.ul::.z a.uh::.z a.sl::.z a.sh::.z a.v::.z a.m::.z a.lo::.z a.hi::t
theorem bi {l:List VK} {p:List Dt->Prop} (h:∀a:Ty,Ty.ok a->fD l fun r=>p (d_Ty a r)):fD (v_Ty l) p:=
 fun x0 gx0 x1 gx1 x2 gx2 x3 gx3 x4 gx4 x5 gx5 x6 gx6 x7 gx7 x8 gx8=>h ⟨x0,x1,x2,x3,x4,x5,x6,x7,x8⟩ ⟨gx0,gx1,gx2,gx3,gx4,gx5,gx6,gx7,gx8⟩
theorem fx (k:Ty->List Dt->List Dt) (a:Ty) (t:List Dt):cY k (d_Ty a t)=k a t:=rfl
theorem Sta.eta (a:Sta):(⟨a.r0,a.r1,a.r2,a.r3,a.r4,a.r5,a.r6,a.r7,a.r8,a.r9,a.r10,a.s0,a.s1,a.s2,a.s3,a.s4,a.s5,a.s6,a.s7⟩:Sta)=a:=rfl
def bL (k:Sta->List Dt->List Dt):List Dt->List Dt:=cY fun r0=>cY fun r1=>cY fun r2=>cY fun r3=>cY fun r4=>cY fun r5=>cY fun r6=>cY fun r7=>cY fun r8=>cY fun r9=>cY fun r10=>cY fun s0=>cY fun s1=>cY fun s2=>cY fun s3=>cY fun s4=>cY fun s5=>cY fun s6=>cY fun s7=>fun r=>k ⟨r0,r1,r2,r3,r4,r5,r6,r7,r8,r9,r10,s0,s1,s2,s3,s4,s5,s6,s7⟩ r
def Sta.ok (a:Sta):Prop:=Ty.ok a.r0/\Ty.ok a.r1/\Ty.ok a.r2/\Ty.ok a.r3/\Ty.ok a.r4/\Ty.ok a.r5/\Ty.ok a.r6/\Ty.ok a.r7/\Ty.ok a.r8/\Ty.ok a.r9/\Ty.ok a.r10/\Ty.ok a.s0/\Ty.ok a.s1/\Ty.ok a.s2/\Ty.ok a.s3/\Ty.ok a.s4/\Ty.ok a.s5/\Ty.ok a.s6/\Ty.ok a.s7
def kSta:List CK:=[.int .i8,.int .u64,.int .u64,.int .i64,.int .i64,.int .u64,.int .u64,.int .i64,.int .i64,.int .i8,.int .u64,.int .u64,.int .i64,.int .i64,.int .u64,.int .u64,.int .i64,.int .i64,.int .i8,.int .u64,.int .u64,.int .i64,.int .i64,.int .u64,.int .u64,.int .i64,.int .i64,.int .i8,.int .u64,.int .u64,.int .i64,.int .i64,.int .u64,.int .u64,.int .i64,.int .i64,.int .i8,.int .u64,.int .u64,.int .i64,.int .i64,.int .u64,.int .u64,.int .i64,.int .i64,.int .i8,.int .u64,.int .u64,.int .i64,.int .i64,.int .u64,.int .u64,.int .i64,.int .i64,.int .i8,.int .u64,.int .u64,.int .i64,.int .i64,.int .u64,.int .u64,.int .i64,.int .i64,.int .i8,.int .u64,.int .u64,.int .i64,.int .i64,.int .u64,.int .u64,.int .i64,.int .i64,.int .i8,.int .u64,.int .u64,.int .i64,.int .i64,.int .u64,.int .u64,.int .i64,.int .i64,.int .i8,.int .u64,.int .u64,.int .i64,.int .i64,.int .u64,.int .u64,.int .i64,.int .i64,.int .i8,.int .u64,.int .u64,.int .i64,.int .i64,.int .u64,.int .u64,.int .i64,.int .i64,.int .i8,.int .u64,.int .u64,.int .i64,.int .i64,.int .u64,.int .u64,.int .i64,.int .i64,.int .i8,.int .u64,.int .u64,.int .i64,.int .i64,.int .u64,.int .u64,.int .i64,.int .i64,.int .i8,.int .u64,.int .u64,.int .i64,.int .i64,.int .u64,.int .u64,.int .i64,.int .i64,.int .i8,.int .u64,.int .u64,.int .i64,.int .i64,.int .u64,.int .u64,.int .i64,.int .i64,.int .i8,.int .u64,.int .u64,.int .i64,.int .i64,.int .u64,.int .u64,.int .i64,.int .i64,.int .i8,.int .u64,.int .u64,.int .i64,.int .i64,.int .u64,.int .u64,.int .i64,.int .i64,.int .i8,.int .u64,.int .u64,.int .i64,.int .i64,.int .u64,.int .u64,.int .i64,.int .i64,.int .i8,.int .u64,.int .u64,.int .i64,.int .i64,.int .u64,.int .u64,.int .i64,.int .i64]
def bG (t:List VK):List VK:=v_Ty (v_Ty (v_Ty (v_Ty (v_Ty (v_Ty (v_Ty (v_Ty (v_Ty (v_Ty (v_Ty (v_Ty (v_Ty (v_Ty (v_Ty (v_Ty (v_Ty (v_Ty (v_Ty (t)))))))))))))))))))
def av (a:Sta) (t:List Dt):List Dt:=d_Ty a.r0 (d_Ty a.r1 (d_Ty a.r2 (d_Ty a.r3 (d_Ty a.r4 (d_Ty a.r5 (d_Ty a.r6 (d_Ty a.r7 (d_Ty a.r8 (d_Ty a.r9 (d_Ty a.r10 (d_Ty a.s0 (d_Ty a.s1 (d_Ty a.s2 (d_Ty a.s3 (d_Ty a.s4 (d_Ty a.s5 (d_Ty a.s6 (d_Ty a.s7 (t)))))))))))))))))))
theorem cS {l:List VK} {p:List Dt->Prop} (h:∀a:Sta,Sta.ok a->fD l fun r=>p (av a r)):fD (bG l) p:=
 bi fun r0 hr0=>bi fun r1 hr1=>bi fun r2 hr2=>bi fun r3 hr3=>bi fun r4 hr4=>bi fun r5 hr5=>bi fun r6 hr6=>bi fun r7 hr7=>bi fun r8 hr8=>bi fun r9 hr9=>bi fun r10 hr10=>bi fun s0 hs0=>bi fun s1 hs1=>bi fun s2 hs2=>bi fun s3 hs3=>bi fun s4 hs4=>bi fun s5 hs5=>bi fun s6 hs6=>bi fun s7 hs7=>h ⟨r0,r1,r2,r3,r4,r5,r6,r7,r8,r9,r10,s0,s1,s2,s3,s4,s5,s6,s7⟩ ⟨hr0,hr1,hr2,hr3,hr4,hr5,hr6,hr7,hr8,hr9,hr10,hs0,hs1,hs2,hs3,hs4,hs5,hs6,hs7⟩
theorem bp (k:Sta->List Dt->List Dt) (a:Sta) (t:List Dt):bL k (av a t)=k a t:=by
 simp only[bL,av,fx]
theorem Snap.eta (a:Snap):(⟨a.r0,a.r1,a.r2,a.r3,a.r4,a.r5,a.r6,a.r7,a.r8,a.r9,a.r10,a.set,a.f0,a.f1,a.f2,a.f3,a.f4,a.f5,a.f6,a.f7,a.f8,a.f9,a.f10,a.f11,a.f12,a.f13,a.f14,a.f15,a.f16,a.f17,a.f18,a.f19,a.f20,a.f21,a.f22,a.f23,a.f24,a.f25,a.f26,a.f27,a.f28,a.f29,a.f30,a.f31,a.f32,a.f33,a.f34,a.f35,a.f36,a.f37,a.f38,a.f39,a.f40,a.f41,a.f42,a.f43,a.f44,a.f45,a.f46,a.f47,a.f48,a.f49,a.f50,a.f51,a.f52,a.f53,a.f54,a.f55,a.f56,a.f57,a.f58,a.f59,a.f60,a.f61,a.f62,a.f63⟩:Snap)=a:=rfl
def Snap.ok (a:Snap):Prop:=inK .u64 a.r0=true/\inK .u64 a.r1=true/\inK .u64 a.r2=true/\inK .u64 a.r3=true/\inK .u64 a.r4=true/\inK .u64 a.r5=true/\inK .u64 a.r6=true/\inK .u64 a.r7=true/\inK .u64 a.r8=true/\inK .u64 a.r9=true/\inK .u64 a.r10=true/\inK .i64 a.set=true/\inK .u8 a.f0=true/\inK .u8 a.f1=true/\inK .u8 a.f2=true/\inK .u8 a.f3=true/\inK .u8 a.f4=true/\inK .u8 a.f5=true/\inK .u8 a.f6=true/\inK .u8 a.f7=true/\inK .u8 a.f8=true/\inK .u8 a.f9=true/\inK .u8 a.f10=true/\inK .u8 a.f11=true/\inK .u8 a.f12=true/\inK .u8 a.f13=true/\inK .u8 a.f14=true/\inK .u8 a.f15=true/\inK .u8 a.f16=true/\inK .u8 a.f17=true/\inK .u8 a.f18=true/\inK .u8 a.f19=true/\inK .u8 a.f20=true/\inK .u8 a.f21=true/\inK .u8 a.f22=true/\inK .u8 a.f23=true/\inK .u8 a.f24=true/\inK .u8 a.f25=true/\inK .u8 a.f26=true/\inK .u8 a.f27=true/\inK .u8 a.f28=true/\inK .u8 a.f29=true/\inK .u8 a.f30=true/\inK .u8 a.f31=true/\inK .u8 a.f32=true/\inK .u8 a.f33=true/\inK .u8 a.f34=true/\inK .u8 a.f35=true/\inK .u8 a.f36=true/\inK .u8 a.f37=true/\inK .u8 a.f38=true/\inK .u8 a.f39=true/\inK .u8 a.f40=true/\inK .u8 a.f41=true/\inK .u8 a.f42=true/\inK .u8 a.f43=true/\inK .u8 a.f44=true/\inK .u8 a.f45=true/\inK .u8 a.f46=true/\inK .u8 a.f47=true/\inK .u8 a.f48=true/\inK .u8 a.f49=true/\inK .u8 a.f50=true/\inK .u8 a.f51=true/\inK .u8 a.f52=true/\inK .u8 a.f53=true/\inK .u8 a.f54=true/\inK .u8 a.f55=true/\inK .u8 a.f56=true/\inK .u8 a.f57=true/\inK .u8 a.f58=true/\inK .u8 a.f59=true/\inK .u8 a.f60=true/\inK .u8 a.f61=true/\inK .u8 a.f62=true/\inK .u8 a.f63=true
def asT (t:List VK):List VK:=.int .u64::.int .u64::.int .u64::.int .u64::.int .u64::.int .u64::.int .u64::.int .u64::.int .u64::.int .u64::.int .u64::.int .i64::.int .u8::.int .u8::.int .u8::.int .u8::.int .u8::.int .u8::.int .u8::.int .u8::.int .u8::.int .u8::.int .u8::.int .u8::.int .u8::.int .u8::.int .u8::.int .u8::.int .u8::.int .u8::.int .u8::.int .u8::.int .u8::.int .u8::.int .u8::.int .u8::.int .u8::.int .u8::.int .u8::.int .u8::.int .u8::.int .u8::.int .u8::.int .u8::.int .u8::.int .u8::.int .u8::.int .u8::.int .u8::.int .u8::.int .u8::.int .u8::.int .u8::.int .u8::.int .u8::.int .u8::.int .u8::.int .u8::.int .u8::.int .u8::.int .u8::.int .u8::.int .u8::.int .u8::.int .u8::.int .u8::.int .u8::.int .u8::.int .u8::.int .u8::.int .u8::.int .u8::.int .u8::.int .u8::.int .u8::.int .u8::t
def au7 (a:Snap) (t:List Dt):List Dt:=.z a.r0::.z a.r1::.z a.r2::.z a.r3::.z a.r4::.z a.r5::.z a.r6::.z a.r7::.z a.r8::.z a.r9::.z a.r10::.z a.set::.z a.f0::.z a.f1::.z a.f2::.z a.f3::.z a.f4::.z a.f5::.z a.f6::.z a.f7::.z a.f8::.z a.f9::.z a.f10::.z a.f11::.z a.f12::.z a.f13::.z a.f14::.z a.f15::.z a.f16::.z a.f17::.z a.f18::.z a.f19::.z a.f20::.z a.f21::.z a.f22::.z a.f23::.z a.f24::.z a.f25::.z a.f26::.z a.f27::.z a.f28::.z a.f29::.z a.f30::.z a.f31::.z a.f32::.z a.f33::.z a.f34::.z a.f35::.z a.f36::.z a.f37::.z a.f38::.z a.f39::.z a.f40::.z a.f41::.z a.f42::.z a.f43::.z a.f44::.z a.f45::.z a.f46::.z a.f47::.z a.f48::.z a.f49::.z a.f50::.z a.f51::.z a.f52::.z a.f53::.z a.f54::.z a.f55::.z a.f56::.z a.f57::.z a.f58::.z a.f59::.z a.f60::.z a.f61::.z a.f62::.z a.f63::t
structure Fr where
 f0:Int
 f1:Int
 f2:Int
 f3:Int
 f4:Int
 f5:Int
 f6:Int
 f7:Int
 f8:Int
 f9:Int
 f10:Int
 f11:Int
 f12:Int
 f13:Int
 f14:Int
 f15:Int
 f16:Int
 f17:Int
 f18:Int
 f19:Int
 f20:Int
 f21:Int
 f22:Int
 f23:Int
 f24:Int
 f25:Int
 f26:Int
 f27:Int
 f28:Int
 f29:Int
 f30:Int
 f31:Int
 f32:Int
 f33:Int
 f34:Int
 f35:Int
 f36:Int
 f37:Int
 f38:Int
 f39:Int
 f40:Int
 f41:Int
 f42:Int
 f43:Int
 f44:Int
 f45:Int
 f46:Int
 f47:Int
 f48:Int
 f49:Int
 f50:Int
 f51:Int
 f52:Int
 f53:Int
 f54:Int
 f55:Int
 f56:Int
 f57:Int
 f58:Int
 f59:Int
 f60:Int
 f61:Int
 f62:Int
 f63:Int
theorem Fr.eta (a:Fr):(⟨a.f0,a.f1,a.f2,a.f3,a.f4,a.f5,a.f6,a.f7,a.f8,a.f9,a.f10,a.f11,a.f12,a.f13,a.f14,a.f15,a.f16,a.f17,a.f18,a.f19,a.f20,a.f21,a.f22,a.f23,a.f24,a.f25,a.f26,a.f27,a.f28,a.f29,a.f30,a.f31,a.f32,a.f33,a.f34,a.f35,a.f36,a.f37,a.f38,a.f39,a.f40,a.f41,a.f42,a.f43,a.f44,a.f45,a.f46,a.f47,a.f48,a.f49,a.f50,a.f51,a.f52,a.f53,a.f54,a.f55,a.f56,a.f57,a.f58,a.f59,a.f60,a.f61,a.f62,a.f63⟩:Fr)=a:=rfl
def Fr.ok (a:Fr):Prop:=inK .u8 a.f0=true/\inK .u8 a.f1=true/\inK .u8 a.f2=true/\inK .u8 a.f3=true/\inK .u8 a.f4=true/\inK .u8 a.f5=true/\inK .u8 a.f6=true/\inK .u8 a.f7=true/\inK .u8 a.f8=true/\inK .u8 a.f9=true/\inK .u8 a.f10=true/\inK .u8 a.f11=true/\inK .u8 a.f12=true/\inK .u8 a.f13=true/\inK .u8 a.f14=true/\inK .u8 a.f15=true/\inK .u8 a.f16=true/\inK .u8 a.f17=true/\inK .u8 a.f18=true/\inK .u8 a.f19=true/\inK .u8 a.f20=true/\inK .u8 a.f21=true/\inK .u8 a.f22=true/\inK .u8 a.f23=true/\inK .u8 a.f24=true/\inK .u8 a.f25=true/\inK .u8 a.f26=true/\inK .u8 a.f27=true/\inK .u8 a.f28=true/\inK .u8 a.f29=true/\inK .u8 a.f30=true/\inK .u8 a.f31=true/\inK .u8 a.f32=true/\inK .u8 a.f33=true/\inK .u8 a.f34=true/\inK .u8 a.f35=true/\inK .u8 a.f36=true/\inK .u8 a.f37=true/\inK .u8 a.f38=true/\inK .u8 a.f39=true/\inK .u8 a.f40=true/\inK .u8 a.f41=true/\inK .u8 a.f42=true/\inK .u8 a.f43=true/\inK .u8 a.f44=true/\inK .u8 a.f45=true/\inK .u8 a.f46=true/\inK .u8 a.f47=true/\inK .u8 a.f48=true/\inK .u8 a.f49=true/\inK .u8 a.f50=true/\inK .u8 a.f51=true/\inK .u8 a.f52=true/\inK .u8 a.f53=true/\inK .u8 a.f54=true/\inK .u8 a.f55=true/\inK .u8 a.f56=true/\inK .u8 a.f57=true/\inK .u8 a.f58=true/\inK .u8 a.f59=true/\inK .u8 a.f60=true/\inK .u8 a.f61=true/\inK .u8 a.f62=true/\inK .u8 a.f63=true
def v_Fr (t:List VK):List VK:=.int .u8::.int .u8::.int .u8::.int .u8::.int .u8::.int .u8::.int .u8::.int .u8::.int .u8::.int .u8::.int .u8::.int .u8::.int .u8::.int .u8::.int .u8::.int .u8::.int .u8::.int .u8::.int .u8::.int .u8::.int .u8::.int .u8::.int .u8::.int .u8::.int .u8::.int .u8::.int .u8::.int .u8::.int .u8::.int .u8::.int .u8::.int .u8::.int .u8::.int .u8::.int .u8::.int .u8::.int .u8::.int .u8::.int .u8::.int .u8::.int .u8::.int .u8::.int .u8::.int .u8::.int .u8::.int .u8::.int .u8::.int .u8::.int .u8::.int .u8::.int .u8::.int .u8::.int .u8::.int .u8::.int .u8::.int .u8::.int .u8::.int .u8::.int .u8::.int .u8::.int .u8::.int .u8::.int .u8::.int .u8::t
def d_Fr (a:Fr) (t:List Dt):List Dt:=.z a.f0::.z a.f1::.z a.f2::.z a.f3::.z a.f4::.z a.f5::.z a.f6::.z a.f7::.z a.f8::.z a.f9::.z a.f10::.z a.f11::.z a.f12::.z a.f13::.z a.f14::.z a.f15::.z a.f16::.z a.f17::.z a.f18::.z a.f19::.z a.f20::.z a.f21::.z a.f22::.z a.f23::.z a.f24::.z a.f25::.z a.f26::.z a.f27::.z a.f28::.z a.f29::.z a.f30::.z a.f31::.z a.f32::.z a.f33::.z a.f34::.z a.f35::.z a.f36::.z a.f37::.z a.f38::.z a.f39::.z a.f40::.z a.f41::.z a.f42::.z a.f43::.z a.f44::.z a.f45::.z a.f46::.z a.f47::.z a.f48::.z a.f49::.z a.f50::.z a.f51::.z a.f52::.z a.f53::.z a.f54::.z a.f55::.z a.f56::.z a.f57::.z a.f58::.z a.f59::.z a.f60::.z a.f61::.z a.f62::.z a.f63::t
def am:=And.intro Fr.eta (And.intro Kn.eta (And.intro Pi.eta (And.intro Pu.eta (And.intro Rg.eta (And.intro Sc.eta (And.intro Snap.eta (And.intro Sta.eta (And.intro Ty.eta (And.intro Sc.eta_r (And.intro Sc.eta_k (And.intro Sc.eta_2 (Ty.eta_s))))))))))))
def z_Sc:List C:=[.int .u64 (.lit 0),.int .u64 (.lit 0),.int .i64 (.lit 0),.int .i64 (.lit 0),.int .u64 (.lit 0),.int .u64 (.lit 0)]
theorem jv:Tryz.prog.eqGuardType Tryz.prog.depth 48=false:=by kernel_rfl
theorem adS:Tryz.prog.cellsOf 48=6:=by kernel_rfl
theorem adX:Tryz.prog.cellsOf 44=4:=by kernel_rfl
theorem adU:Tryz.prog.cellsOf 46=2:=by kernel_rfl
theorem ad0:Tryz.prog.cellsOf 42=1:=by kernel_rfl
theorem ajA:Tryz.prog.cellsOf 2=1:=by kernel_rfl
theorem avQ (vs:List Value) (hv:aF vs z_Sc):Tryz.prog.keyLits 6 48 vs=some (bJ vs):=by
 obtain⟨x0,_,rfl,g0,hv⟩:=ak hv
 obtain⟨x1,_,rfl,g1,hv⟩:=ak hv
 obtain⟨x2,_,rfl,g2,hv⟩:=ak hv
 obtain⟨x3,_,rfl,g3,hv⟩:=ak hv
 obtain⟨x4,_,rfl,g4,hv⟩:=ak hv
 obtain⟨x5,_,rfl,g5,hv⟩:=ak hv
 obtain rfl:=aU hv
 simp[Program.keyLits,Tryz.underlying48,Tryz.underlying44,Tryz.underlying46,Tryz.underlying42,Tryz.underlying2,adS,adX,adU,ad0,ajA,xV,bJ,g0,g1,g2,g3,g4,g5]
 split
 ·simp only[Option.bind_some,Function.comp_apply]
  split
  ·rfl
  ·rename_i h;exact absurd (by decide) h
 ·rename_i h;exact absurd (by decide) h
theorem awp (vs:List Value) (hv:aF vs z_Sc):(Value.agg vs.toArray).formed Tryz.prog 48=true:=by
 obtain⟨x0,_,rfl,g0,hv⟩:=ak hv
 obtain⟨x1,_,rfl,g1,hv⟩:=ak hv
 obtain⟨x2,_,rfl,g2,hv⟩:=ak hv
 obtain⟨x3,_,rfl,g3,hv⟩:=ak hv
 obtain⟨x4,_,rfl,g4,hv⟩:=ak hv
 obtain⟨x5,_,rfl,g5,hv⟩:=ak hv
 obtain rfl:=aU hv
 kernel_rfl
theorem qy (vs us:List Value) (hv:aF vs z_Sc) (hu:aF us z_Sc) (w:World):(Op.equal 48 (.agg vs.toArray) (.agg us.toArray)).run Tryz.prog w=.ok (eqVs vs us) w:=
 eh (by kernel_rfl) awp 6 avQ vs us hv hu w
def z_Ty:List C:=[.int .i8 (.lit 0),.int .u64 (.lit 0),.int .u64 (.lit 0),.int .i64 (.lit 0),.int .i64 (.lit 0),.int .u64 (.lit 0),.int .u64 (.lit 0),.int .i64 (.lit 0),.int .i64 (.lit 0)]
theorem ju:Tryz.prog.eqGuardType Tryz.prog.depth 50=false:=by kernel_rfl
theorem adP:Tryz.prog.cellsOf 50=9:=by kernel_rfl
theorem ad4:Tryz.prog.cellsOf 37=1:=by kernel_rfl
theorem adR:Tryz.prog.cellsOf 48=6:=by kernel_rfl
theorem adW:Tryz.prog.cellsOf 44=4:=by kernel_rfl
theorem adT:Tryz.prog.cellsOf 46=2:=by kernel_rfl
theorem adZ:Tryz.prog.cellsOf 42=1:=by kernel_rfl
theorem ajz:Tryz.prog.cellsOf 2=1:=by kernel_rfl
theorem ajy:Tryz.prog.cellsOf 3=1:=by kernel_rfl
theorem asd (vs:List Value) (hv:aF vs z_Ty):Tryz.prog.keyLits 6 50 vs=some (bJ vs):=by
 obtain⟨x0,_,rfl,g0,hv⟩:=ak hv
 obtain⟨x1,_,rfl,g1,hv⟩:=ak hv
 obtain⟨x2,_,rfl,g2,hv⟩:=ak hv
 obtain⟨x3,_,rfl,g3,hv⟩:=ak hv
 obtain⟨x4,_,rfl,g4,hv⟩:=ak hv
 obtain⟨x5,_,rfl,g5,hv⟩:=ak hv
 obtain⟨x6,_,rfl,g6,hv⟩:=ak hv
 obtain⟨x7,_,rfl,g7,hv⟩:=ak hv
 obtain⟨x8,_,rfl,g8,hv⟩:=ak hv
 obtain rfl:=aU hv
 simp[Program.keyLits,Tryz.underlying50,Tryz.underlying37,Tryz.underlying48,Tryz.underlying44,Tryz.underlying46,Tryz.underlying42,Tryz.underlying2,Tryz.underlying3,adP,ad4,adR,adW,adT,adZ,ajz,ajy,xV,bJ,g0,g1,g2,g3,g4,g5,g6,g7,g8]
 repeat (rw[if_pos];rotate_left;· decide)
 rfl
theorem awo (vs:List Value) (hv:aF vs z_Ty):(Value.agg vs.toArray).formed Tryz.prog 50=true:=by
 obtain⟨x0,_,rfl,g0,hv⟩:=ak hv
 obtain⟨x1,_,rfl,g1,hv⟩:=ak hv
 obtain⟨x2,_,rfl,g2,hv⟩:=ak hv
 obtain⟨x3,_,rfl,g3,hv⟩:=ak hv
 obtain⟨x4,_,rfl,g4,hv⟩:=ak hv
 obtain⟨x5,_,rfl,g5,hv⟩:=ak hv
 obtain⟨x6,_,rfl,g6,hv⟩:=ak hv
 obtain⟨x7,_,rfl,g7,hv⟩:=ak hv
 obtain⟨x8,_,rfl,g8,hv⟩:=ak hv
 obtain rfl:=aU hv
 kernel_rfl
theorem qx (vs us:List Value) (hv:aF vs z_Ty) (hu:aF us z_Ty) (w:World):(Op.equal 50 (.agg vs.toArray) (.agg us.toArray)).run Tryz.prog w=.ok (eqVs vs us) w:=
 eh (by kernel_rfl) awo 6 asd vs us hv hu w
def tys_SdB:List (Nat×TI):=[(2,tiq2),
 (3,tiq3),
 (37,gP),
 (42,fF),
 (44,gO),
 (46,kt),
 (48,dy),
 (50,qr),
 (51,si),
 (52,sf),
 (54,ac0),
 (123,⟨true,4,(zN 4 1111),[],some (4,42),none,false,false,none,32,false,none,false,0⟩)]
theorem afl:(tys_SdB.all fun p=>ckTI Tryz.prog p.1 p.2)=true:=by kernel_rfl
theorem vK:(tys_SdB.all fun p=>!p.2.eqok||((Nat.beq p.1 48&&aN p.2.zero z_Sc)||(Nat.beq p.1 50&&aN p.2.zero z_Ty)))=true:=by kernel_rfl
theorem aeZ:(tys_SdB.all fun p=>!p.2.keyok)=true:=by kernel_rfl
theorem kr:∀t i,(t,i)∈tys_SdB->TIok Tryz.prog t i:=by
 intro t i h
 refine bB (cz (f:=ckTI Tryz.prog) afl h) (fun he=> ?_) (fun he=> ?_) (fun he=> ?_)
 ·have h1:=thm7.1 vK (t,i) h
  simp only[he,Bool.not_true,Bool.false_or,bH,thm0] at h1
  rcases h1 with h1 | h1
  ·have hs:=h1.2
   obtain rfl:=thm1 h1.1
   exact fun vs us hv hu=>qy vs us (an hs hv) (an hs hu)
  ·have hs:=h1.2
   obtain rfl:=thm1 h1.1
   exact fun vs us hv hu=>qx vs us (an hs hv) (an hs hu)
 ·have h1:=thm7.1 vK (t,i) h
  simp only[he,Bool.not_true,Bool.false_or,bH,thm0] at h1
  rcases h1 with h1 | h1
  ·have hs:=h1.2
   obtain rfl:=thm1 h1.1
   exact jv
  ·have hs:=h1.2
   obtain rfl:=thm1 h1.1
   exact ju
 ·have h1:=thm7.1 aeZ (t,i) h
  simp[he] at h1
def dX (key:Nat):Sm:=⟨84,key,[],[.agg kTy],false⟩
def bQ:List Dt->List Dt
 | []=>d_Ty (tscal) ([])
 | _=>[]
def sT_tscal:Tr:=
(.call 0 (kSc) .nil 0
(.leaf (.cons (.lit 1) (.vs 0 6 (.cons (.lit 0) (.cons (.lit 0) .nil))))))
def abp:Spec:={F:=fun k=>match k with | 0=>cM | _=>fun _=>[],pre:=fun _ _=>True}
theorem alF:ap tys_SdB [hE 0] [] [] [] 200 Tryz.f84 [] [.agg kTy] false [] sT_tscal:=⟨by kernel_rfl,by kernel_rfl,by kernel_rfl⟩
theorem ak5 (U:Env) (g:varsD U 0 []=[]):sT_tscal.asks abp (fun U e=>e.D U=bQ []) U fun _ _=>False:=by
 simp only[sT_tscal,abp,d_Ty,kSc,cM,bQ,simQ,ai,S1,Nat.reduceSub,Nat.reduceAdd,-eq_self,am]
 intro e;(try simp only[e,am,-eq_self]);clear e
 ·rfl
theorem gf {sp:Spec} {key:Nat} (hF:sp.F key=bQ) (hP:sp.pre key=fun _=>True:=by rfl):SmOk Tryz.prog sp (dX key):=
 aq (s:=dX key) hF hP mxo7 kr (smc (mi rfl) sm0) Tryz.func84 fn0 alF (.inl rfl) (fun hp U g=>ak5 U g)
def tL (key:Nat):Sm:=⟨61,key,[.agg kTy],[.one .bool],false⟩
def sO (t:Ty):List Dt:=[.z (b2i (tok t))]
def jI:List Dt->List Dt
 | [.z x0,.z x1,.z x2,.z x3,.z x4,.z x5,.z x6,.z x7,.z x8]=>sO ⟨x0,x1,x2,x3,x4,x5,x6,x7,x8⟩
 | _=>[]
def ao3:Tr:=(.br (.eq (.var 1) (.lit 0))
(.br (.eq (.var 2) (.lit 0))
(.br (.eq (.var 3) (.lit 0))
(.br (.eq (.var 4) (.lit 0))
(.br (.eq (.var 5) (.lit 0))
(.br (.eq (.var 6) (.lit 0))
(.br (.lt (.var 8) (.var 7))
(.leaf (.cb (.tt false) .nil))
(.br (.lt (.var 7) (.lit (-1048576)))
(.leaf (.cb (.tt false) .nil))
(.leaf (.cb (.not (.lt (.lit 1048576) (.var 8))) .nil))))
(.leaf (.cb (.tt false) .nil)))
(.leaf (.cb (.tt false) .nil)))
(.leaf (.cb (.tt false) .nil)))
(.leaf (.cb (.tt false) .nil)))
(.leaf (.cb (.tt false) .nil)))
(.leaf (.cb (.tt false) .nil)))
def sT_ttok:Tr:=
(.br (.eq (.var 0) (.lit 0))
(.leaf (.cb (.and (.eq (.var 0) (.lit 0)) (.and (.eq (.var 1) (.lit 0)) (.and (.eq (.var 2) (.lit 0)) (.and (.eq (.var 3) (.lit 0)) (.and (.eq (.var 4) (.lit 0)) (.and (.eq (.var 5) (.lit 0)) (.and (.eq (.var 6) (.lit 0)) (.and (.eq (.var 7) (.lit 0)) (.and (.eq (.var 8) (.lit 0)) (.tt true)))))))))) .nil))
(.br (.eq (.var 0) (.lit 1))
(.br (.eq (.var 7) (.lit 0))
(.br (.eq (.var 8) (.lit 0))
(.call 0 [.bool] (.vs 1 6 .nil) 9
(.leaf (.cb (.bw 9) .nil)))
(.leaf (.cb (.tt false) .nil)))
(.leaf (.cb (.tt false) .nil)))
(.br (.eq (.var 0) (.lit 2))
 ao3
(.br (.eq (.var 0) (.lit 3))
 ao3
(.leaf (.cb (.tt false) .nil))))))
def ag2:Spec:={F:=fun k=>match k with | 0=>cp | _=>fun _=>[],pre:=fun _ _=>True}
theorem aqT:ap tys_SdB [ge 0] [] [] [] 200 Tryz.f61 [.agg kTy] [.one .bool] false (v_Ty ([])) sT_ttok:=⟨by kernel_rfl,by kernel_rfl,by kernel_rfl⟩
theorem aqb (t:Ty) (ht:Ty.ok t) (U:Env) (g:varsD U 0 (v_Ty ([]))=(d_Ty t ([]))):sT_ttok.asks ag2 (fun U e=>e.D U=jI (d_Ty t ([]))) U fun _ _=>False:=by
 simp only[d_Ty,v_Ty,varsD,varD,thm5,gS0,Nat.reduceAdd,and_true] at g
 simp only[sT_ttok,ao3,ag2,d_Ty,cp,fZ,jI,sO,simQ,ai,S1,Nat.reduceSub,Nat.reduceAdd,-eq_self,am,g]
 constructor<;>intro c0
 ·(unfold tok;simp_all [cX,Bool.and_assoc]<;>first | (intros;omega) | (rw[aJ];simp;done))
 constructor<;>intro c1
 constructor<;>intro c2
 constructor<;>intro c3
 intro e;(try simp only[e,am,-eq_self]);clear e
 ·(unfold tok;simp_all [cX,Bool.and_assoc]<;>first | (intros;omega) | (rw[aJ];simp;done))
 ·(unfold tok;simp_all [cX,Bool.and_assoc]<;>first | (intros;omega) | (rw[aJ];simp;done))
 ·(unfold tok;simp_all [cX,Bool.and_assoc]<;>first | (intros;omega) | (rw[aJ];simp;done))
 constructor<;>intro c4
 constructor<;>intro c5
 constructor<;>intro c6
 constructor<;>intro c7
 constructor<;>intro c8
 constructor<;>intro c9
 constructor<;>intro c10
 constructor<;>intro c11
 ·(unfold tok;simp_all [cX,Bool.and_assoc]<;>first | (intros;omega) | (rw[aJ];simp;done))
 constructor<;>intro c12
 ·(unfold tok;simp_all [cX,Bool.and_assoc]<;>first | (intros;omega) | (rw[aJ];simp;done))
 ·(unfold tok;simp_all [cX,Bool.and_assoc]<;>first | (intros;omega) | (rw[aJ];simp;done))
 ·(unfold tok;simp_all [cX,Bool.and_assoc]<;>first | (intros;omega) | (rw[aJ];simp;done))
 ·(unfold tok;simp_all [cX,Bool.and_assoc]<;>first | (intros;omega) | (rw[aJ];simp;done))
 ·(unfold tok;simp_all [cX,Bool.and_assoc]<;>first | (intros;omega) | (rw[aJ];simp;done))
 ·(unfold tok;simp_all [cX,Bool.and_assoc]<;>first | (intros;omega) | (rw[aJ];simp;done))
 ·(unfold tok;simp_all [cX,Bool.and_assoc]<;>first | (intros;omega) | (rw[aJ];simp;done))
 ·(unfold tok;simp_all [cX,Bool.and_assoc]<;>first | (intros;omega) | (rw[aJ];simp;done))
 constructor<;>intro c13
 constructor<;>intro c14
 constructor<;>intro c15
 constructor<;>intro c16
 constructor<;>intro c17
 constructor<;>intro c18
 constructor<;>intro c19
 constructor<;>intro c20
 ·(unfold tok;simp_all [cX,Bool.and_assoc]<;>first | (intros;omega) | (rw[aJ];simp;done))
 constructor<;>intro c21
 ·(unfold tok;simp_all [cX,Bool.and_assoc]<;>first | (intros;omega) | (rw[aJ];simp;done))
 ·(unfold tok;simp_all [cX,Bool.and_assoc]<;>first | (intros;omega) | (rw[aJ];simp;done))
 ·(unfold tok;simp_all [cX,Bool.and_assoc]<;>first | (intros;omega) | (rw[aJ];simp;done))
 ·(unfold tok;simp_all [cX,Bool.and_assoc]<;>first | (intros;omega) | (rw[aJ];simp;done))
 ·(unfold tok;simp_all [cX,Bool.and_assoc]<;>first | (intros;omega) | (rw[aJ];simp;done))
 ·(unfold tok;simp_all [cX,Bool.and_assoc]<;>first | (intros;omega) | (rw[aJ];simp;done))
 ·(unfold tok;simp_all [cX,Bool.and_assoc]<;>first | (intros;omega) | (rw[aJ];simp;done))
 ·(unfold tok;simp_all [cX,Bool.and_assoc]<;>first | (intros;omega) | (rw[aJ];simp;done))
 ·(unfold tok;simp_all [cX,Bool.and_assoc]<;>first | (intros;omega) | (rw[aJ];simp;done))
theorem ahL {sp:Spec} {key:Nat} (hF:sp.F key=jI) (hP:sp.pre key=fun _=>True:=by rfl):SmOk Tryz.prog sp (tL key):=
 aq (s:=tL key) hF hP mxo7 kr (smc (jH rfl) sm0) Tryz.func61 fn0 aqT (.inl rfl) (bi fun q0 gq0=>fun hp U g=>aqb q0 gq0 U g)
def hG (key:Nat):Sm:=⟨33,key,[.agg kSta],[.one .bool],false⟩
def me (s:Sta):List Dt:=[.z (b2i (smay s))]
def bY:List Dt->List Dt:=bL fun s=>fun _=>me s
def sT_tmay:Tr:=
(.call 0 [.bool] (.vs 0 9 .nil) 171
(.br (.bw 171)
(.call 0 [.bool] (.vs 9 9 .nil) 172
(.br (.bw 172)
(.call 0 [.bool] (.vs 18 9 .nil) 173
(.br (.bw 173)
(.call 0 [.bool] (.vs 27 9 .nil) 174
(.br (.bw 174)
(.call 0 [.bool] (.vs 36 9 .nil) 175
(.br (.bw 175)
(.call 0 [.bool] (.vs 45 9 .nil) 176
(.br (.bw 176)
(.call 0 [.bool] (.vs 54 9 .nil) 177
(.br (.bw 177)
(.call 0 [.bool] (.vs 63 9 .nil) 178
(.br (.bw 178)
(.call 0 [.bool] (.vs 72 9 .nil) 179
(.br (.bw 179)
(.call 0 [.bool] (.vs 81 9 .nil) 180
(.br (.bw 180)
(.call 0 [.bool] (.vs 90 9 .nil) 181
(.br (.bw 181)
(.br (.eq (.var 99) (.lit 0))
(.leaf (.cb (.tt false) .nil))
(.call 0 [.bool] (.vs 99 9 .nil) 182
(.br (.bw 182)
(.br (.eq (.var 108) (.lit 0))
(.leaf (.cb (.tt false) .nil))
(.call 0 [.bool] (.vs 108 9 .nil) 183
(.br (.bw 183)
(.br (.eq (.var 117) (.lit 0))
(.leaf (.cb (.tt false) .nil))
(.call 0 [.bool] (.vs 117 9 .nil) 184
(.br (.bw 184)
(.br (.eq (.var 126) (.lit 0))
(.leaf (.cb (.tt false) .nil))
(.call 0 [.bool] (.vs 126 9 .nil) 185
(.br (.bw 185)
(.br (.eq (.var 135) (.lit 0))
(.leaf (.cb (.tt false) .nil))
(.call 0 [.bool] (.vs 135 9 .nil) 186
(.br (.bw 186)
(.br (.eq (.var 144) (.lit 0))
(.leaf (.cb (.tt false) .nil))
(.call 0 [.bool] (.vs 144 9 .nil) 187
(.br (.bw 187)
(.br (.eq (.var 153) (.lit 0))
(.leaf (.cb (.tt false) .nil))
(.call 0 [.bool] (.vs 153 9 .nil) 188
(.br (.bw 188)
(.br (.eq (.var 162) (.lit 0))
(.leaf (.cb (.tt false) .nil))
(.call 0 [.bool] (.vs 162 9 .nil) 189
(.br (.bw 189)
(.leaf (.cb (.tt true) .nil))
(.leaf (.cb (.tt false) .nil)))))
(.leaf (.cb (.tt false) .nil)))))
(.leaf (.cb (.tt false) .nil)))))
(.leaf (.cb (.tt false) .nil)))))
(.leaf (.cb (.tt false) .nil)))))
(.leaf (.cb (.tt false) .nil)))))
(.leaf (.cb (.tt false) .nil)))))
(.leaf (.cb (.tt false) .nil)))))
(.leaf (.cb (.tt false) .nil))))
(.leaf (.cb (.tt false) .nil))))
(.leaf (.cb (.tt false) .nil))))
(.leaf (.cb (.tt false) .nil))))
(.leaf (.cb (.tt false) .nil))))
(.leaf (.cb (.tt false) .nil))))
(.leaf (.cb (.tt false) .nil))))
(.leaf (.cb (.tt false) .nil))))
(.leaf (.cb (.tt false) .nil))))
(.leaf (.cb (.tt false) .nil))))
(.leaf (.cb (.tt false) .nil))))
def ag3:Spec:={F:=fun k=>match k with | 0=>jI | _=>fun _=>[],pre:=fun _ _=>True}
theorem aqU:ap tys_SdB [tL 0] [] [] [] 200 Tryz.f33 [.agg kSta] [.one .bool] false (bG ([])) sT_tmay:=⟨by kernel_rfl,by kernel_rfl,by kernel_rfl⟩
theorem aqc (s:Sta) (hs:Sta.ok s) (U:Env) (g:varsD U 0 (bG ([]))=(av s ([]))):sT_tmay.asks ag3 (fun U e=>e.D U=bY (av s ([]))) U fun _ _=>False:=by
 simp only[bY,bp,fx,rdZ,rdB]
 simp only[av,d_Ty,bG,v_Ty,varsD,varD,thm5,gS0,Nat.reduceAdd,and_true] at g
 simp(maxSteps:=10000000) only[sT_tmay,ag3,av,d_Ty,bL,cY,jI,sO,bY,me,simQ,ai,S1,Nat.reduceSub,Nat.reduceAdd,-eq_self,am,g]
 intro e;(try simp only[e,am,-eq_self]);clear e
 constructor<;>intro c0
 intro e;(try simp only[e,am,-eq_self]);clear e
 constructor<;>intro c1
 intro e;(try simp only[e,am,-eq_self]);clear e
 constructor<;>intro c2
 intro e;(try simp only[e,am,-eq_self]);clear e
 constructor<;>intro c3
 intro e;(try simp only[e,am,-eq_self]);clear e
 constructor<;>intro c4
 intro e;(try simp only[e,am,-eq_self]);clear e
 constructor<;>intro c5
 intro e;(try simp only[e,am,-eq_self]);clear e
 constructor<;>intro c6
 intro e;(try simp only[e,am,-eq_self]);clear e
 constructor<;>intro c7
 intro e;(try simp only[e,am,-eq_self]);clear e
 constructor<;>intro c8
 intro e;(try simp only[e,am,-eq_self]);clear e
 constructor<;>intro c9
 intro e;(try simp only[e,am,-eq_self]);clear e
 constructor<;>intro c10
 constructor<;>intro c11
 ·(unfold smay tset;simp_all)
 intro e;(try simp only[e,am,-eq_self]);clear e
 constructor<;>intro c12
 constructor<;>intro c13
 ·(unfold smay tset;simp_all)
 intro e;(try simp only[e,am,-eq_self]);clear e
 constructor<;>intro c14
 constructor<;>intro c15
 ·(unfold smay tset;simp_all)
 intro e;(try simp only[e,am,-eq_self]);clear e
 constructor<;>intro c16
 constructor<;>intro c17
 ·(unfold smay tset;simp_all)
 intro e;(try simp only[e,am,-eq_self]);clear e
 constructor<;>intro c18
 constructor<;>intro c19
 ·(unfold smay tset;simp_all)
 intro e;(try simp only[e,am,-eq_self]);clear e
 constructor<;>intro c20
 constructor<;>intro c21
 ·(unfold smay tset;simp_all)
 intro e;(try simp only[e,am,-eq_self]);clear e
 constructor<;>intro c22
 constructor<;>intro c23
 ·(unfold smay tset;simp_all)
 intro e;(try simp only[e,am,-eq_self]);clear e
 constructor<;>intro c24
 constructor<;>intro c25
 ·(unfold smay tset;simp_all)
 intro e;(try simp only[e,am,-eq_self]);clear e
 constructor<;>intro c26
 ·(unfold smay tset;simp_all)
 ·(unfold smay tset;simp_all)
 ·(unfold smay tset;simp_all)
 ·(unfold smay tset;simp_all)
 ·(unfold smay tset;simp_all)
 ·(unfold smay tset;simp_all)
 ·(unfold smay tset;simp_all)
 ·(unfold smay tset;simp_all)
 ·(unfold smay tset;simp_all)
 ·(unfold smay tset;simp_all)
 ·(unfold smay tset;simp_all)
 ·(unfold smay tset;simp_all)
 ·(unfold smay tset;simp_all)
 ·(unfold smay tset;simp_all)
 ·(unfold smay tset;simp_all)
 ·(unfold smay tset;simp_all)
 ·(unfold smay tset;simp_all)
 ·(unfold smay tset;simp_all)
 ·(unfold smay tset;simp_all)
 ·(unfold smay tset;simp_all)
theorem mj {sp:Spec} {key:Nat} (hF:sp.F key=bY) (hP:sp.pre key=fun _=>True:=by rfl):SmOk Tryz.prog sp (hG key):=
 aq (s:=hG key) hF hP mxo7 kr (smc (ahL rfl) sm0) Tryz.func33 fn0 aqU (.inl rfl) (cS fun q0 gq0=>fun hp U g=>aqc q0 gq0 U g)
def kD (key:Nat):Sm:=⟨32,key,[],[.agg kSta],false⟩
def io:List Dt->List Dt
 | []=>av (gJ) ([])
 | _=>[]
def sT_tfirst:Tr:=
(.call 0 (kSc) (.cons (.lit 0) .nil) 0
(.leaf (.zs [0,0,0,0,0,0,0,0,0,2,0,0,0,0,0,0,0,0,0,0,0,0,0,0,0,0,0,0,0,0,0,0,0,0,0,0,0,0,0,0,0,0,0,0,0,0,0,0,0,0,0,0,0,0,0,0,0,0,0,0,0,0,0,0,0,0,0,0,0,0,0,0,0,0,0,0,0,0,0,0,0,0,0,0,0,0,0,0,0,0,3,0,0,0,0,0,0,64,64,1] (.vs 0 6 (.zs [0,0,1] (.vs 0 6 (.zs [0,0,1] (.vs 0 6 (.zs [0,0,1] (.vs 0 6 (.zs [0,0,1] (.vs 0 6 (.zs [0,0,1] (.vs 0 6 (.zs [0,0,1] (.vs 0 6 (.zs [0,0,1] (.vs 0 6 (.cons (.lit 0) (.cons (.lit 0) .nil))))))))))))))))))))
def wK:Spec:={F:=fun k=>match k with | 0=>dc | _=>fun _=>[],pre:=fun _ _=>True}
theorem agD:ap tys_SdB [jG 0] [] [] [] 200 Tryz.f32 [] [.agg kSta] false [] sT_tfirst:=⟨by kernel_rfl,by kernel_rfl,by kernel_rfl⟩
theorem af6 (U:Env) (g:varsD U 0 []=[]):sT_tfirst.asks wK (fun U e=>e.D U=io []) U fun _ _=>False:=by
 simp only[sT_tfirst,wK,av,d_Ty,kSc,dc,oh,io,simQ,ai,S1,Nat.reduceSub,Nat.reduceAdd,-eq_self,am]
 intro e;(try simp only[e,am,-eq_self]);clear e
 ·rfl
theorem wW {sp:Spec} {key:Nat} (hF:sp.F key=io) (hP:sp.pre key=fun _=>True:=by rfl):SmOk Tryz.prog sp (kD key):=
 aq (s:=kD key) hF hP mxo7 kr (smc (oU rfl) sm0) Tryz.func32 fn0 agD (.inl rfl) (fun hp U g=>af6 U g)
theorem akl {s:Sta} {P:Ty->Prop} (h0:P s.r0) (h1:P s.r1) (h2:P s.r2) (h3:P s.r3) (h4:P s.r4) (h5:P s.r5) (h6:P s.r6) (h7:P s.r7) (h8:P s.r8) (h9:P s.r9) (h10:P s.r10) {d:Int} (b0:0<=d) (b1:d<=10):P (tnth s d):=by
 have h:d=0\/d=1\/d=2\/d=3\/d=4\/d=5\/d=6\/d=7\/d=8\/d=9\/d=10:=by omega
 rcases h with rfl | rfl | rfl | rfl | rfl | rfl | rfl | rfl | rfl | rfl | rfl
 ·exact h0
 ·exact h1
 ·exact h2
 ·exact h3
 ·exact h4
 ·exact h5
 ·exact h6
 ·exact h7
 ·exact h8
 ·exact h9
 ·exact h10
section
variable {p:Prog} {i:Int} {s:Sta} {a q:Int}
end
structure GT (t:Ty):Prop where
 ok:tok t=true
 wf:t.s.wf
theorem gt_nil:GT tnil:=⟨rfl,⟨⟨⟨by decide,by decide⟩,⟨by decide,by decide⟩,⟨by decide,by decide⟩,⟨by decide,by decide⟩⟩,⟨⟨by decide,by decide⟩,⟨by decide,by decide⟩⟩⟩⟩
theorem aai {s:Sc} (h:vmay s=true) (w:s.wf):GT (tsc s):=⟨by
 unfold tok
 rw[if_neg (show¬(tsc s).k=0 by show¬(1:Int)=0;decide),if_pos (show(tsc s).k=1 from rfl)]
 show(vmay s&&_)=true
 rw[h];rfl,w⟩
theorem aki:vmay vall=true:=by decide +kernel
theorem gt_scal:GT tscal:=aai aki rR
theorem akb {t:Ty} (h:cX t=true):t.s.wf:=by
 unfold cX at h
 simp only[thm0,db] at h
 obtain⟨h1,h2,h3,h4,h5,h6⟩:=h
 refine⟨⟨?_,?_,?_,?_⟩,⟨?_,?_⟩⟩<;>(first | (show _<=t.ul/\t.ul<=_;omega) | (show _<=t.uh/\t.uh<=_;omega) | (show _<=t.sl/\t.sl<=_;omega) | (show _<=t.sh/\t.sh<=_;omega) | (show _<=t.v/\t.v<=_;omega) | (show _<=t.m/\t.m<=_;omega))
theorem ajb {t:Ty} (hk:t.k=2\/t.k=3) (h:tok t=true):GT t:=⟨h,akb (akk h hk).1⟩
theorem aah {s:Sc} (w:s.wf):GT (tsc (vnar s)):=aai gT (nP w)
theorem aj9 {w:Bool} {a b:Sc} (ha:a.wf) (hb:b.wf):(if w=true then vwid a b else dr a b).wf:=by
 split
 ·unfold vwid
  split
  ·exact nP (nj (ael (b:=b.r) ha.r) (iR _ _))
  ·exact rR
 ·unfold dr
  split
  ·exact nP (nj (aaE ha.r hb.r) (iR _ _))
  ·exact rR
theorem bR {w:Bool} {a b:Ty} (ha:GT a) (hb:GT b):GT (cA w a b):=by
 refine⟨aaQ ha.ok hb.ok,?_⟩
 unfold cA dl
 split
 ·exact gt_nil.wf
 split
 ·exact gt_scal.wf
 split
 ·exact aj9 (w:=w) ha.wf hb.wf
 ·exact gt_nil.wf
theorem ank {t:Int} (h:0<=t/\t<=18446744073709551615):(vbel t).wf:=nP (nj ⟨(⟨Int.le_refl 0,by show(0:Int)<=_;decide⟩:0<=(0:Int)/\(0:Int)<=18446744073709551615),h,dN.2.2.1,dN.2.2.2⟩ ⟨(⟨Int.le_refl 0,by show(0:Int)<=_;decide⟩:0<=(0:Int)/\(0:Int)<=18446744073709551615),h⟩)
theorem xW (n:Int):GT (tsc (vbyt n)):=by
 refine aai gT (ank ?_)
 have h:(min (max n 1) 8).toNat=1\/(min (max n 1) 8).toNat=2\/(min (max n 1) 8).toNat=3\/(min (max n 1) 8).toNat=4\/(min (max n 1) 8).toNat=5\/(min (max n 1) 8).toNat=6\/(min (max n 1) 8).toNat=7\/(min (max n 1) 8).toNat=8:=by omega
 rcases h with h | h | h | h | h | h | h | h<;>rw[h]<;>decide
theorem awm {op w:Int} {a b:Sc} (ha:a.wf) (hb:b.wf):GT (tsc (vdo op w a b)):=by
 unfold vdo
 split
 ·split
  ·exact aah (nj (aeo ha.r hb.r) (anj ha.k hb.k _ _))
  ·split
   ·exact aah (nj (aka (rQ ha) (rQ hb)) (anj (rQ ha).k (rQ hb).k _ _))
   ·exact aai gT (ank ⟨by decide,by decide⟩)
 ·exact gt_scal
theorem auU {cc:Int} {a b:Sc} (ha:a.wf) (hb:b.wf):GT (tsc (vgiv cc a b)):=by
 unfold vgiv
 split
 ·refine aah (nj (apt ha.r hb.r) ?_)
  unfold vgk
  split
  ·exact aaD _ _
  ·exact ha.k
 ·exact gt_scal
theorem gt_k {t:Ty} (h:GT t) (hp:tptr t=false):t.s.sl<=t.s.sh:=by
 unfold tptr at hp
 rw[Bool.or_eq_false_iff] at hp
 rcases vO h.ok with hk | hk | hk | hk
 ·have q:=h.ok
  unfold tok at q
  rw[if_pos hk] at q
  unfold cX at q
  simp only[thm0,db] at q
  show t.sl<=t.sh
  omega
 ·have q:=aaL (apA h.ok hk)
  exact((ce _).1 q).2
 ·rw[hk] at hp;simp at hp
 ·rw[hk] at hp;simp at hp
theorem acv {t b:Ty} {q:Bool} (h:GT t) (hb:GT b) (hp:tptr t=true) (hb2:tptr b=false):GT (jo t b.s q):=by
 unfold jo
 split
 ·rename_i hc
  obtain⟨c1,c2⟩:=hc
  have hk:t.k=2\/t.k=3:=by
   unfold tptr at hp
   simpa using hp
  obtain⟨e1,e2,e3,e4⟩:=akk h.ok hk
  have e5:=gt_k hb hb2
  rw[thm0,aZ,aZ] at c1
  have hle:(cU t b.s q).lo<=(cU t b.s q).hi:=by
   unfold cU mlo mhi
   cases q
   ·show IntKind.i64.wrap (t.lo+b.s.sl)<=IntKind.i64.wrap (t.hi+b.s.sh)
    rw[aR,aR];omega
   ·show IntKind.i64.wrap (t.lo+IntKind.i64.wrap (0-b.s.sh))<=IntKind.i64.wrap (t.hi+IntKind.i64.wrap (0-b.s.sl))
    rw[aR,aR,aR,aR];omega
  refine ajb (t:=cU t b.s q) hk ?_
  unfold far2 at c2
  simp only[thm0,aZ] at c2
  unfold tok
  have hk0:¬(cU t b.s q).k=0:=by show¬t.k=0;omega
  have hk1:¬(cU t b.s q).k=1:=by show¬t.k=1;omega
  rw[if_neg hk0,if_neg hk1,if_pos (show(cU t b.s q).k=2\/(cU t b.s q).k=3 from hk)]
  simp only[thm0,aZ]
  exact⟨e1,hle,c2.1.1,c2.2.2⟩
 ·exact gt_scal
theorem auV {x:Ins} {a b:Ty} (ha:GT a) (hb:GT b):GT (valu x a b):=by
 unfold valu
 split
 ·exact hb
 have hA:GT (aluA x a b):=by unfold aluA;split<;>assumption
 have hB:GT (aluB x b):=by
  unfold aluB
  split
  ·exact aai (by decide +kernel) (yC ⟨by decide,by decide⟩)
  ·exact hb
 unfold gH
 split
 ·exact awm hA.wf hB.wf
 rename_i hn
 split
 ·rename_i h
  refine acv hA hB ?_ h.2.1
  rw[h.2.1] at hn
  simpa using hn
 split
 ·rename_i h
  refine acv hB hA ?_ h.2.1
  rw[h.2.1] at hn
  simpa using hn
 split
 ·exact gt_scal
 ·exact xW 4
structure GA (s:Sta):Prop where
 r0:GT s.r0
 r1:GT s.r1
 r2:GT s.r2
 r3:GT s.r3
 r4:GT s.r4
 r5:GT s.r5
 r6:GT s.r6
 r7:GT s.r7
 r8:GT s.r8
 r9:GT s.r9
 r10:GT s.r10
 s0:GT s.s0/\tset s.s0=true
 s1:GT s.s1/\tset s.s1=true
 s2:GT s.s2/\tset s.s2=true
 s3:GT s.s3/\tset s.s3=true
 s4:GT s.s4/\tset s.s4=true
 s5:GT s.s5/\tset s.s5=true
 s6:GT s.s6/\tset s.s6=true
 s7:GT s.s7/\tset s.s7=true
theorem GA.may {s:Sta} (h:GA s):smay s=true:=by
 unfold smay
 rw[h.r0.ok,h.r1.ok,h.r2.ok,h.r3.ok,h.r4.ok,h.r5.ok,h.r6.ok,h.r7.ok,h.r8.ok,h.r9.ok,h.r10.ok,h.s0.2,h.s1.2,h.s2.2,h.s3.2,h.s4.2,h.s5.2,h.s6.2,h.s7.2];rfl
theorem eJ {c:Bool} {t u:Ty} (h1:GT t) (h2:GT u):GT (tite c t u):=by cases c;exact h2;exact h1
theorem GA.reg {s:Sta} (h:GA s) {t:Ty} (ht:GT t) (d:Int):GA (sreg s d t):=
 ⟨eJ ht h.r0,eJ ht h.r1,eJ ht h.r2,eJ ht h.r3,eJ ht h.r4,eJ ht h.r5,eJ ht h.r6,eJ ht h.r7,eJ ht h.r8,eJ ht h.r9,eJ ht h.r10,h.s0,h.s1,h.s2,h.s3,h.s4,h.s5,h.s6,h.s7⟩
theorem GA.nth {s:Sta} (h:GA s) {d:Int} (b0:0<=d) (b1:d<=10):GT (tnth s d):=akl h.r0 h.r1 h.r2 h.r3 h.r4 h.r5 h.r6 h.r7 h.r8 h.r9 h.r10 b0 b1
theorem GA.slot {s:Sta} (h:GA s) (n:Int):GT (akv s n):=by
 unfold akv
 split;exact h.s0.1
 split;exact h.s1.1
 split;exact h.s2.1
 split;exact h.s3.1
 split;exact h.s4.1
 split;exact h.s5.1
 split;exact h.s6.1
 exact h.s7.1
theorem GA.load {s:Sta} (h:GA s) (lo hi z:Int):GT (od s lo hi z):=by
 unfold od
 split
 ·split
  ·exact h.slot _
  ·exact xW z
 ·exact gt_nil
theorem GA.put {s:Sta} (h:GA s) {t:Ty} (ht:GT t) (hs:tset t=true) (p:Int->Bool):GA (sput s p t):=by
 have q:∀(c:Bool) (u:Ty),(GT u/\tset u=true)->GT (if c=true then t else u)/\tset (if c=true then t else u)=true:=fun c u hu=>by
  cases c
  ·exact hu
  ·exact⟨ht,hs⟩
 exact⟨h.r0,h.r1,h.r2,h.r3,h.r4,h.r5,h.r6,h.r7,h.r8,h.r9,h.r10,q _ _ h.s0,q _ _ h.s1,q _ _ h.s2,q _ _ h.s3,q _ _ h.s4,q _ _ h.s5,q _ _ h.s6,q _ _ h.s7⟩
theorem GA.store {s:Sta} (h:GA s) {lo hi z:Int} {t:Ty} (ht:GT t) (he:oa s lo hi z t=0):GA (gV s lo hi z t):=by
 unfold oa at he
 split at he
 ·rename_i hc
  unfold gV
  rw[if_pos hc]
  split
  ·exact h.put ht hc.2 _
  ·exact h.put gt_scal afr _
 ·cases he
theorem GA.join {a b:Sta} (ha:GA a) (hb:GA b) (w:Bool):GA (jF w a b):=by
 rw[(qL ha.may hb.may).1]
 exact⟨bR ha.r0 hb.r0,bR ha.r1 hb.r1,bR ha.r2 hb.r2,bR ha.r3 hb.r3,bR ha.r4 hb.r4,bR ha.r5 hb.r5,bR ha.r6 hb.r6,bR ha.r7 hb.r7,bR ha.r8 hb.r8,bR ha.r9 hb.r9,bR ha.r10 hb.r10,
  ⟨bR ha.s0.1 hb.s0.1,dF ha.s0.2 hb.s0.2⟩,⟨bR ha.s1.1 hb.s1.1,dF ha.s1.2 hb.s1.2⟩,⟨bR ha.s2.1 hb.s2.1,dF ha.s2.2 hb.s2.2⟩,⟨bR ha.s3.1 hb.s3.1,dF ha.s3.2 hb.s3.2⟩,⟨bR ha.s4.1 hb.s4.1,dF ha.s4.2 hb.s4.2⟩,⟨bR ha.s5.1 hb.s5.1,dF ha.s5.2 hb.s5.2⟩,⟨bR ha.s6.1 hb.s6.1,dF ha.s6.2 hb.s6.2⟩,⟨bR ha.s7.1 hb.s7.1,dF ha.s7.2 hb.s7.2⟩⟩
theorem GA.call {s:Sta} (h:GA s):GA (asS s):=⟨gt_scal,gt_nil,gt_nil,gt_nil,gt_nil,gt_nil,h.r6,h.r7,h.r8,h.r9,h.r10,h.s0,h.s1,h.s2,h.s3,h.s4,h.s5,h.s6,h.s7⟩
theorem auS (v:Int):GT (tsc (vone (IntKind.u64.wrap v))):=by
 have h:0<=IntKind.u64.wrap v/\IntKind.u64.wrap v<=18446744073709551615:=by rw[bf];omega
 exact aai (rW (aaI h)) (yC h)
theorem GA.b2 {s:Sta} (h:GA s) {x:Ins} (b0:0<=x.s) (b1:x.s<=10):GT (bl x s):=by
 unfold bl
 split
 ·exact h.nth b0 b1
 ·exact auS _
theorem GA.mid {p:Prog} {x:Ins} {s:Sta} (h:GA s) (b0:0<=x.d) (b1:x.d<=10) (b2:0<=x.s) (b3:x.s<=10) (he:(vmid p x s).2=0):GA (vmid p x s).1:=by
 unfold vmid at he ⊢
 split
 ·exact h.reg (auV (h.nth b0 b1) (h.b2 b2 b3)) _
 rename_i h0
 rw[if_neg h0] at he
 split
 ·rename_i h1
  rw[if_pos h1] at he
  split
  ·rename_i hw
   rw[if_pos hw] at he
   unfold vld
   split
   ·exact(h.reg (xW _) _).reg (GA.load (h.reg (xW _) _) _ _ _) _
   ·exact h.reg (xW _) _
  ·exact h
 rename_i h1
 rw[if_neg h1] at he
 split
 ·rename_i h2
  rw[if_pos h2] at he
  split
  ·rename_i hw
   rw[if_pos hw] at he
   unfold vsv at he ⊢
   split
   ·rename_i h3
    rw[if_pos h3] at he
    exact h.store (h.nth b2 b3) he
   ·exact h
  ·exact h
 split
 ·exact h.call
 ·exact h
theorem GA.way {s:Sta} (h:GA s) {d go cc:Int} {b:Ty} {t k:Bool} (b0:0<=d) (b1:d<=10) (hb:GT b):∀q∈vway s d (tnth s d) b t go cc k,GA q.2:=by
 intro q hq
 unfold vway at hq
 split at hq
 ·split at hq
  ·rw[du.1 hq]
   exact h.reg (auU (h.nth b0 b1).wf hb.wf) _
  ·cases hq
 ·rw[du.1 hq];exact h
theorem GA.sides {p:Prog} {i:Int} {s:Sta} (h:GA s) (hx:imay (ab p.l i)=true):∀q∈(aK p i s).1,GA q.2:=by
 obtain⟨b0,b1,b2,b3⟩:0<=(ab p.l i).d/\(ab p.l i).d<=10/\0<=(ab p.l i).s/\(ab p.l i).s<=10:=by
  have b:=nb hx
  exact⟨b.1,b.2.1,b.2.2.1,b.2.2.2.1⟩
 intro q hq
 unfold aK at hq
 split at hq
 ·cases hq
 split at hq
 ·rename_i he
  have hm:=h.mid b0 b1 b2 b3 he
  have hb:=h.b2 b2 b3
  rcases List.mem_append.1 hq with hq | hq
  ·unfold dp at hq
   split at hq
   ·cases hq
   ·exact hm.way b0 b1 hb q hq
  ·unfold fk at hq
   split at hq
   ·exact hm.way b0 b1 hb q hq
   ·cases hq
 ·cases hq
theorem tb_0 (i:Nat):tb 0 i=false:=by unfold tb;simp
theorem avU {k:Kn} (w:k.wf) (h:khas k 0=true):kin (kone 0) k=true:=by
 rw[eb w] at h
 rw[aiV w]
 intro i hi
 obtain⟨h1,h2⟩:=h i hi
 rw[tb_0] at h2
 refine⟨?_,h1,?_,?_⟩
 ·show(tb 0 i&&tb 0 i)=false
  rw[tb_0];rfl
 ·show(tb 0 i||tb k.m i)=tb k.m i
  rw[tb_0,Bool.false_or]
 ·show(tb 0 i &&!tb k.m i)=tb k.v i
  rw[tb_0];exact h2
def ZT (t:Ty):Prop:=t.k=1/\vhas t.s 0=true
theorem ZT.wi {t:Ty} (h:ZT t) (g:GT t):twi (tsc (vone 0)) t=true:=by
 obtain⟨hk,hv⟩:=h
 have k0:(t.k==0)=false:=by rw[hk];rfl
 cases hs:tise t with
 | true=>exact apy k0 rfl hs
 | false=>
   rw[qq k0 rfl hs (by rw[hk];rfl) rfl]
   have h1:=qA hv
   have h2:=nS hv
   rw[bK] at h1
   have e:s64 0=0:=by decide +kernel
   rw[e] at h1
   have hb:bin (bone 0) t.s.r=true:=avg (by decide +kernel) (aaL (rW hv)) ⟨h1.1,h1.2.1,by show _<=s64 0;rw[e];exact h1.2.2.1,by show s64 0<=_;rw[e];exact h1.2.2.2⟩
   show(bin (bone 0) t.s.r&&kin (kone 0) t.s.k)=true
   rw[hb,avU g.wf.k h2];rfl
theorem aez:vhas vall 0=true:=by decide +kernel
theorem ZT.join {w:Bool} {a b:Ty} (h:ZT a) (ga:GT a) (gb:GT b) (hb:tset b=true):ZT (cA w a b):=by
 obtain⟨hk,hv⟩:=h
 have hb0:b.k≠0:=by
  intro e
  rw[afs (by rw[e];rfl)] at hb;cases hb
 unfold cA dl
 rw[if_neg (by rintro (e | e);omega;exact hb0 e)]
 split
 ·exact⟨rfl,aez⟩
 ·rename_i hne
  try rw[if_pos hk]
  have hbk:b.k=1:=by omega
  refine⟨rfl,?_⟩
  show vhas (if w=true then vwid a.s b.s else dr a.s b.s) 0=true
  have m1:=apA ga.ok hk
  have m2:=apA gb.ok hbk
  split
  ·exact akd ga.wf gb.wf ⟨by decide,by decide⟩ m1 m2 (.inl hv)
  ·exact aey ga.wf gb.wf ⟨by decide,by decide⟩ m1 m2 (.inl hv)
theorem aaK:vnar vall=vall:=by kernel_rfl
theorem xR (k:Kn):gB kall k=kall:=by
 unfold gB
 split
 ·have e:bits .or .u64 (bits .or .u64 kall.m k.m) (bits .xor .u64 kall.v k.v)=18446744073709551615:=by
   refine ant (mA _ _) ⟨by decide,by decide⟩ (fun i hi=> ?_)
   have one:tb 18446744073709551615 i=true:=by
    have:∀i,i<64->tb 18446744073709551615 i=true:=by decide +kernel
    exact this i hi
   rw[kv,kv,show tb kall.m i=true from one,one];rfl
  rw[e]
  show(⟨bits .andNot .u64 0 18446744073709551615,18446744073709551615⟩:Kn)=⟨0,18446744073709551615⟩
  rw[show bits .andNot .u64 0 18446744073709551615=0 by decide +kernel]
 ·rfl
theorem am9 {w:Bool} {s:Sc} (h:s.wf):(if w=true then vwid vall s else dr vall s)=vall:=by
 obtain⟨⟨⟨a1,a2⟩,⟨a3,a4⟩,⟨a5,a6⟩,⟨a7,a8⟩⟩,-⟩:=h
 split
 ·unfold vwid
  split
  ·have e:bwid vall.r s.r=ball:=by
    show bwid ball s.r=ball
    unfold bwid ball
    rw[if_neg (fun q=>by have:=thm3 q.2;have:s.r.ul<0:=this;omega),if_neg (fun q=>by have:=thm3 q.2;have:18446744073709551615<s.r.uh:=this;omega),if_neg (fun q=>by have:=thm3 q.2;have:s.r.sl < -9223372036854775808:=this;omega),if_neg (fun q=>by have:=thm3 q.2;have:9223372036854775807<s.r.sh:=this;omega)]
   rw[e,show vall.k=kall from rfl,xR]
   exact aaK
  ·rfl
 ·unfold dr
  split
  ·have e:fC vall.r s.r=ball:=by
    show fC ball s.r=ball
    unfold fC
    split
    ·show(⟨min 0 s.r.ul,max 18446744073709551615 s.r.uh,min (-9223372036854775808) s.r.sl,max 9223372036854775807 s.r.sh⟩:Rg)=ball
     rw[Int.min_eq_left a1,Int.max_eq_left a4,Int.min_eq_left a5,Int.max_eq_left a8];rfl
    ·rfl
   rw[e,show vall.k=kall from rfl,xR]
   exact aaK
  ·rfl
def PT (c z:Int) (t:Ty):Prop:=t.k=0\/t=tscal\/(t.k=c/\t.lo<=z/\z<=t.hi)
theorem PT.wi {c z:Int} {t:Ty} (h:PT c z t) (hc:c=2\/c=3):twi ⟨c,0,0,0,0,0,0,z,z⟩ t=true:=by
 have c0:(c==0)=false:=by rcases hc with rfl | rfl<;>rfl
 have c1:(c==1)=false:=by rcases hc with rfl | rfl<;>rfl
 rcases h with h | h | ⟨h,h1,h2⟩
 ·exact apz (by rw[h];rfl)
 ·rw[h];exact apy (by decide) c0 afu
 ·have hs:tise t=false:=by
   unfold tise
   rw[h,show(c==tscal.k)=false from c1];rfl
  rw[fV (by rw[h];exact c0) c0 hs (by show(c==t.k)=true;rw[h];simp) c1]
  show(decide (t.lo<=z)&&decide (z<=t.hi))=true
  rw[dU h1,dU h2];rfl
theorem PT.join {w:Bool} {c z:Int} {a b:Ty} (hc:c=2\/c=3) (hz : -1048576<=z/\z<=1048576) (h:PT c z a) (ga:GT a) (gb:GT b):PT c z (cA w a b):=by
 unfold cA dl
 split
 ·exact .inl rfl
 rename_i h0
 split
 ·exact .inr (.inl rfl)
 rename_i hne
 rcases h with h | h | ⟨h,h1,h2⟩
 ·exact absurd (.inl h) h0
 ·have hk:a.k=1:=by rw[h];rfl
  rw[if_pos hk,h]
  refine .inr (.inl ?_)
  show ty 1 (if w=true then vwid vall b.s else dr vall b.s) 0 0=tscal
  rw[am9 gb.wf];rfl
 ·rw[if_neg (by omega)]
  refine .inr (.inr ⟨h,?_,?_⟩)
  ·show tlo w a b<=z
   unfold tlo
   split<;>omega
  ·show z<=thi w a b
   unfold thi
   split<;>omega
structure F0 (s:Sta):Prop where
 r0:s.r0.k=0
 r1:PT 2 0 s.r1
 r2:s.r2.k=0
 r3:s.r3.k=0
 r4:s.r4.k=0
 r5:s.r5.k=0
 r6:s.r6.k=0
 r7:s.r7.k=0
 r8:s.r8.k=0
 r9:s.r9.k=0
 r10:PT 3 64 s.r10
 s0:ZT s.s0
 s1:ZT s.s1
 s2:ZT s.s2
 s3:ZT s.s3
 s4:ZT s.s4
 s5:ZT s.s5
 s6:ZT s.s6
 s7:ZT s.s7
theorem ea {w:Bool} {a b:Ty} (h:a.k=0):(cA w a b).k=0:=by
 unfold cA dl
 rw[if_pos (.inl h)];rfl
theorem F0.join {a b:Sta} (h:F0 a) (ga:GA a) (gb:GA b) (w:Bool):F0 (jF w a b):=by
 rw[(qL ga.may gb.may).1]
 exact⟨ea h.r0,h.r1.join (.inl rfl) ⟨by decide,by decide⟩ ga.r1 gb.r1,ea h.r2,ea h.r3,ea h.r4,ea h.r5,ea h.r6,ea h.r7,ea h.r8,ea h.r9,h.r10.join (.inr rfl) ⟨by decide,by decide⟩ ga.r10 gb.r10,
  h.s0.join ga.s0.1 gb.s0.1 gb.s0.2,h.s1.join ga.s1.1 gb.s1.1 gb.s1.2,h.s2.join ga.s2.1 gb.s2.1 gb.s2.2,h.s3.join ga.s3.1 gb.s3.1 gb.s3.2,h.s4.join ga.s4.1 gb.s4.1 gb.s4.2,h.s5.join ga.s5.1 gb.s5.1 gb.s5.2,h.s6.join ga.s6.1 gb.s6.1 gb.s6.2,h.s7.join ga.s7.1 gb.s7.1 gb.s7.2⟩
theorem iJ:GT (tsc (vone 0)):=aai (by decide +kernel) (yC ⟨by decide,by decide⟩)
theorem ga_first:GA gJ:=
 ⟨gt_nil,ajb (.inl rfl) (by decide),gt_nil,gt_nil,gt_nil,gt_nil,gt_nil,gt_nil,gt_nil,gt_nil,ajb (.inr rfl) (by decide),
  ⟨iJ,by decide +kernel⟩,⟨iJ,by decide +kernel⟩,⟨iJ,by decide +kernel⟩,⟨iJ,by decide +kernel⟩,⟨iJ,by decide +kernel⟩,⟨iJ,by decide +kernel⟩,⟨iJ,by decide +kernel⟩,⟨iJ,by decide +kernel⟩⟩
theorem mJ:ZT (tsc (vone 0)):=⟨rfl,aaI ⟨by decide,by decide⟩⟩
theorem amS:F0 gJ:=
 ⟨rfl,.inr (.inr ⟨rfl,by decide,by decide⟩),rfl,rfl,rfl,rfl,rfl,rfl,rfl,rfl,.inr (.inr ⟨rfl,by decide,by decide⟩),mJ,mJ,mJ,mJ,mJ,mJ,mJ,mJ⟩
theorem F0.sin {s:Sta} (h:F0 s) (g:GA s):sin gJ s=true:=by
 have n:∀{t:Ty},t.k=0->twi tnil t=true:=fun {t} e=>apz (by rw[e];rfl)
 unfold Go.Proofs.YtfkhblmeioiciaaGreatDoor.sin
 rw[ga_first.may,g.may]
 show(true&&(true&&(twi tnil s.r0&&(twi ⟨2,0,0,0,0,0,0,0,0⟩ s.r1&&(twi tnil s.r2&&(twi tnil s.r3&&(twi tnil s.r4&&(twi tnil s.r5&&(twi tnil s.r6&&(twi tnil s.r7&&(twi tnil s.r8&&(twi tnil s.r9&&(twi ⟨3,0,0,0,0,0,0,64,64⟩ s.r10&&(twi (tsc (vone 0)) s.s0&&(twi (tsc (vone 0)) s.s1&&(twi (tsc (vone 0)) s.s2&&(twi (tsc (vone 0)) s.s3&&(twi (tsc (vone 0)) s.s4&&(twi (tsc (vone 0)) s.s5&&(twi (tsc (vone 0)) s.s6&&(twi (tsc (vone 0)) s.s7)))))))))))))))))))))=true
 rw[n h.r0,h.r1.wi (.inl rfl),n h.r2,n h.r3,n h.r4,n h.r5,n h.r6,n h.r7,n h.r8,n h.r9,h.r10.wi (.inr rfl),h.s0.wi g.s0.1,h.s1.wi g.s1.1,h.s2.wi g.s2.1,h.s3.wi g.s3.1,h.s4.wi g.s4.1,h.s5.wi g.s5.1,h.s6.wi g.s6.1,h.s7.wi g.s7.1];rfl
structure VJ (p:Prog) (r:VR):Prop where
 vi:VI p r
 s0:gt r.T (0:Nat) 0=1
 f:F0 (ax r.T (0:Nat))
 ok:∀k:Nat,k<64->gt r.T k 0=1->GA (ax r.T k)
 lt:∀k:Nat,k<64->gt r.T k 0=1->k<p.l.length
def DN (p:Prog) (r:VR):Prop:=∀k:Nat,k<64->gt r.T k 0=1->tb r.w k=false->(aK p k (ax r.T k)).2=0/\∀q∈(aK p k (ax r.T k)).1,gt r.T q.1 0=1
theorem vS {T:List (List Int)} {n:Nat} (S:Sta) (hn:n<T.length):ax (T.set n (1::staL S)) (n:Int)=S:=by
 have h:∀c,gt (T.set n (1::staL S)) (n:Int) c=(1::staL S).getD c 0:=fun c=>by rw[aja n c hn,if_pos rfl]
 simp only[ax,tyAt,h]
 rfl
theorem asj {T:List (List Int)} {n:Nat} {S:Sta} (hn:n<T.length) (k:Nat) (h:gt T k 0=1\/k=n):gt (T.set n (1::staL S)) (k:Int) 0=1:=by
 rw[aja k 0 hn]
 split
 ·rfl
 ·rename_i e
  exact h.resolve_right e
section
variable {p:Prog} {r:VR} {q:Int×Sta}
theorem fE {n:Nat} (hq:q.1=(n:Int)):vput r q=r/\gt r.T n 0=1\/∃S g,vput r q=⟨vbit r.w n,r.T.set n (1::staL S),g⟩/\(gt r.T n 0=1/\S=vjn r q\/¬gt r.T n 0=1/\S=q.2):=by
 unfold vput
 rw[hq,dj]
 split
 ·rename_i h1
  split
  ·exact .inl ⟨rfl,h1⟩
  ·exact .inr ⟨_,_,rfl,.inl ⟨h1,rfl⟩⟩
 ·rename_i h1
  exact .inr ⟨_,_,rfl,.inr ⟨h1,rfl⟩⟩
theorem amq {n:Nat} (hq:q.1=(n:Int)) (hn:n<64) {k:Nat} (hk:k<64):((vput r q).T[k]? =r.T[k]? /\tb (vput r q).w k=tb r.w k)\/tb (vput r q).w k=true:=by
 rcases fE (r:=r) hq with⟨h,-⟩ | ⟨S,g,h,-⟩
 ·rw[h];exact .inl ⟨rfl,rfl⟩
 ·rw[h]
  by_cases e:k=n
  ·right
   show tb (vbit r.w n) k=true
   rw[yH hn hk,e];simp
  ·left
   refine⟨by show(r.T.set n (1::staL S))[k]? =r.T[k]?;rw[List.getElem?_set_ne (fun e2=>e e2.symm)],?_⟩
   show tb (vbit r.w n) k=tb r.w k
   rw[yH hn hk]
   simp[e]
theorem ur {n:Nat} (hq:q.1=(n:Int)) (hn:n<r.T.length) (k:Nat) (h:gt r.T k 0=1\/k=n):gt (vput r q).T k 0=1:=by
 rcases fE (r:=r) hq with⟨e,h1⟩ | ⟨S,g,e,-⟩
 ·rw[e]
  rcases h with h | h
  ·exact h
  ·rw[h];exact h1
 ·rw[e];exact asj hn k h
theorem aui (hv:VJ p r) (hl:p.l.length<=64) {n:Nat} (hq:q.1=(n:Int)) (hn:n<p.l.length) (hg:GA q.2):VJ p (vput r q):=by
 have hT:n<r.T.length:=by rw[hv.vi.T];omega
 have vi:=hv.vi.put (q:=q) (by rw[hq];omega) hl
 refine⟨vi,ur hq hT 0 (.inl hv.s0),?_,?_,?_⟩
 ·rcases fE (r:=r) hq with⟨e,-⟩ | ⟨S,g,e,hS⟩
  ·rw[e];exact hv.f
  ·rw[e]
   show F0 (ax (r.T.set n (1::staL S)) (0:Nat))
   by_cases h0:n=0
   ·subst h0
    rw[vS S hT]
    rcases hS with⟨h1,rfl⟩ | ⟨h1,-⟩
    ·unfold vjn
     rw[hq]
     exact hv.f.join (hv.ok 0 (by omega) hv.s0) hg _
    ·exact absurd hv.s0 h1
   ·rw[fX (T':=r.T) (List.getElem?_set_ne h0)]
    exact hv.f
 ·intro k hk hs
  rcases fE (r:=r) hq with⟨e,-⟩ | ⟨S,g,e,hS⟩
  ·rw[e] at hs ⊢;exact hv.ok k hk hs
  ·rw[e] at hs ⊢
   show GA (ax (r.T.set n (1::staL S)) k)
   by_cases h0:n=k
   ·subst h0
    rw[vS S hT]
    rcases hS with⟨h1,rfl⟩ | ⟨h1,rfl⟩
    ·unfold vjn
     rw[hq]
     exact(hv.ok n hk h1).join hg _
    ·exact hg
   ·have e2:(r.T.set n (1::staL S))[k]? =r.T[k]? :=List.getElem?_set_ne h0
    rw[fX e2]
    exact hv.ok k hk ((gD e2 0).symm.trans hs)
 ·intro k hk hs
  rcases fE (r:=r) hq with⟨e,-⟩ | ⟨S,g,e,-⟩
  ·rw[e] at hs;exact hv.lt k hk hs
  ·rw[e] at hs
   by_cases h0:n=k
   ·omega
   ·have e2:(r.T.set n (1::staL S))[k]? =r.T[k]? :=List.getElem?_set_ne h0
    exact hv.lt k hk ((gD e2 0).symm.trans hs)
end
theorem ab0 {p:Prog} (hl:p.l.length<=64):∀(l:List (Int×Sta)) {r:VR},VJ p r->(∀q∈l,(0<=q.1/\q.1<(p.l.length:Int))/\GA q.2)->
  VJ p (l.foldl vput r)/\(∀k:Nat,k<64->((l.foldl vput r).T[k]? =r.T[k]? /\tb (l.foldl vput r).w k=tb r.w k)\/tb (l.foldl vput r).w k=true)/\(∀k:Nat,gt r.T k 0=1->gt (l.foldl vput r).T k 0=1)/\∀q∈l,gt (l.foldl vput r).T q.1 0=1
 | [],r,h,_=>⟨h,fun _ _=>.inl ⟨rfl,rfl⟩,fun _ h=>h,fun q hq=>by cases hq⟩
 | q::l,r,h,hq=>by
   obtain⟨hr,hg⟩:=hq q bD
   obtain⟨n,hn⟩:=ku hr.1
   have hT:n<r.T.length:=by rw[h.vi.T];omega
   have h1:=aui h hl hn (by omega) hg
   obtain⟨a,b,c,d⟩:=ab0 hl l h1 (fun x hx=>hq x (cm _ hx))
   refine⟨a,fun k hk=> ?_,fun k hs=>c k (ur hn hT k (.inl hs)),fun x hx=> ?_⟩
   ·rcases b k hk with⟨b1,b2⟩ | b1
    ·rcases amq (r:=r) hn (by omega) hk with⟨c1,c2⟩ | c1
     ·exact .inl ⟨b1.trans c1,b2.trans c2⟩
     ·exact .inr (b2.trans c1)
    ·exact .inr b1
   ·rcases List.mem_cons.1 hx with rfl | hx
    ·rw[hn]
     exact c n (ur hn hT n (.inr rfl))
    ·exact d x hx
theorem asO {p:Prog} (hl:p.l.length<=maxLen) (hk:(bj p).2=0) {r:VR} (h:VJ p r) (hd:DN p r) (hw:r.w≠0) (he:(aK p (tzI r.w) (ax r.T (tzI r.w))).2=0):
  VJ p ((aK p (tzI r.w) (ax r.T (tzI r.w))).1.foldl vput (lV r))/\DN p ((aK p (tzI r.w) (ax r.T (tzI r.w))).1.foldl vput (lV r)):=by
 obtain⟨⟨q1,q2,q3⟩,-,-⟩:=eH hl hk
 obtain⟨hV2,-⟩:=h.vi.next hw
 obtain⟨k,e1,e2,e3,e4⟩:=acj (by have:=h.vi.w;omega) h.vi.w.2
 obtain⟨k5,k6⟩:=h.vi.on k e2 e3
 rw[e1] at he ⊢
 have h2:VJ p (lV r):=⟨hV2,h.s0,h.f,h.ok,h.lt⟩
 have hx:imay (ab p.l k)=true:=jc hl hk (Int.natCast_nonneg k) (by omega)
 have hg:=(h.ok k e2 k6).sides hx
 obtain⟨a,b,c,d⟩:=ab0 q3 (aK p k (ax r.T k)).1 h2 (fun q hq=>⟨ns hl hk k5 q hq,hg q hq⟩)
 refine⟨a,fun j hj hs hb=> ?_⟩
 rcases b j hj with⟨b1,b2⟩ | b1
 ·have eS:ax ((aK p k (ax r.T k)).1.foldl vput (lV r)).T (j:Int)=ax r.T j:=fX b1
  have hs2:gt r.T j 0=1:=(gD b1 0).symm.trans hs
  rw[eS]
  by_cases hjk:j=k
  ·subst hjk
   exact⟨he,d⟩
  ·have hbj:tb r.w j=false:=by
    have:tb (lV r).w j=(tb r.w j &&!(j==k)):=e4 j hj
    rw[b2,this] at hb
    simpa[hjk] using hb
   obtain⟨f1,f2⟩:=hd j hj hs2 hbj
   refine⟨f1,fun q hq=> ?_⟩
   have hs3:=f2 q hq
   obtain⟨m,hm⟩:=ku (ns hl hk (h.lt j hj hs2) q hq).1
   rw[hm] at hs3 ⊢
   exact c m hs3
 ·rw[b1] at hb;cases hb
theorem asg:∀k:Nat,k<64->gt vini.T (k:Int) 0=1->k=0:=by decide +kernel
theorem asR {p:Prog} (hl:1<=p.l.length):VJ p vini where
 vi:=VI.ini hl
 s0:=by decide +kernel
 f:=by
  rw[show ax vini.T (0:Nat)=gJ by kernel_rfl]
  exact amS
 ok k hk hs:=by
  obtain rfl:=asg k hk hs
  rw[show ax vini.T (0:Nat)=gJ by kernel_rfl]
  exact ga_first
 lt k hk hs:=by
  obtain rfl:=asg k hk hs
  exact hl
theorem au6 {p:Prog}:DN p vini:=fun k hk hs hb=>by
 obtain rfl:=asg k hk hs
 rw[show tb vini.w 0=true by decide +kernel] at hb
 cases hb
theorem aew {p:Prog} (hl:p.l.length<=maxLen) (hk:(bj p).2=0):∀(n:Nat) (last:Int) (r:VR),VJ p r->DN p r->(fl p n last r).2.2.2=0->∃r',fl p n last r=nl p r'.T/\VJ p r'/\DN p r'/\r'.w=0:=by
 intro n
 induction n with
 | zero=>
   intro last r hV hD h
   by_cases hw:r.w=0
   ·exact⟨r,dq hw,hV,hD,hw⟩
   ·rw[fU hw] at h;cases h
 | succ n ih=>
   intro last r hV hD h
   by_cases hw:r.w=0
   ·exact⟨r,dq hw,hV,hD,hw⟩
   ·by_cases he:(aK p (tzI r.w) (ax r.T (tzI r.w))).2=0
    ·rw[iS hw he] at h ⊢
     obtain⟨a,b⟩:=asO hl hk hV hD hw he
     exact ih _ _ a b h
    ·rw[ko hw he] at h
     exact absurd h he
def cy (T:List (List Int)) (i:Int):Sta:=⟨tyAt T i 0,tyAt T i 9,tyAt T i 18,tyAt T i 27,tyAt T i 36,tyAt T i 45,tyAt T i 54,tyAt T i 63,tyAt T i 72,tyAt T i 81,tyAt T i 90,tyAt T i 99,tyAt T i 108,tyAt T i 117,tyAt T i 126,tyAt T i 135,tyAt T i 144,tyAt T i 153,tyAt T i 162⟩
theorem acu {n k:Nat} (f:Nat->List Int) (h:k<n) (c:Nat):gt ((List.range n).map f) (k:Int) c=(f k).getD c 0:=by
 have e:((List.range n).map f).getD k []=f k:=by
  rw[cW,ji,List.getElem?_range h];rfl
 unfold gt
 rw[dj,e]
theorem qe {p:Prog} {T:List (List Int)} {k:Nat} (h:k<p.l.length):gt (nl p T).1 (k:Int) 0=1↔gt T k 0=1:=by
 unfold nl
 rw[acu _ h]
 show b2i (gt T k 0==1)=1↔_
 by_cases e:gt T k 0=1
 ·rw[e];simp[b2i]
 ·rw[show(gt T k 0==1)=false by simpa using e]
  simp[b2i,e]
theorem acI {p:Prog} {T:List (List Int)} {k:Nat} (h:k<p.l.length) (hs:gt T k 0=1):cy (nl p T).2.1 (k:Int)=ax T k:=by
 have e:∀c,gt (nl p T).2.1 (k:Int) c=(staL (ax T k)).getD c 0:=fun c=>by
  unfold nl
  rw[acu _ h,if_pos hs]
 simp only[cy,tyAt,e]
 rfl
theorem ake {p:Prog} (hl:p.l.length<=maxLen) (h:(vrun p).2.2.2=0):1<=p.l.length/\gt (vrun p).1 (0:Nat) 0=1/\sin gJ (cy (vrun p).2.1 (0:Nat))=true/\∀k:Nat,k<p.l.length->gt (vrun p).1 k 0=1->
  smay (cy (vrun p).2.1 k)=true/\(bn p k (cy (vrun p).2.1 k)).2=0/\∀j:Nat,j<(bn p k (cy (vrun p).2.1 k)).1.length->∃m:Nat,gt (bn p k (cy (vrun p).2.1 k)).1 j 0=(m:Int)/\m<p.l.length/\gt (vrun p).1 m 0=1:=by
 by_cases hk:(bj p).2=0
 ·obtain⟨⟨q1,q2,q3⟩,-,-⟩:=eH hl hk
  have e:vrun p=fl p 2000 0 vini:=by unfold vrun;rw[if_pos hk]
  rw[e] at h ⊢
  obtain⟨r,e2,hV,hD,hw⟩:=aew hl hk _ _ _ (asR q2) au6 h
  rw[e2]
  refine⟨q2,(qe (by omega)).2 hV.s0,?_,fun k hk2 hs=> ?_⟩
  ·rw[acI (by omega) hV.s0]
   exact hV.f.sin (hV.ok 0 (by omega) hV.s0)
  ·have hs1:=(qe hk2).1 hs
   have hb:tb r.w k=false:=by rw[hw,tb_0]
   obtain⟨d1,d2⟩:=hD k (by omega) hs1 hb
   have hm:=(hV.ok k (by omega) hs1).may
   rw[acI hk2 hs1]
   have hst:bn p k (ax r.T k)=((aK p k (ax r.T k)).1.map fun q=>q.1::staL q.2,(aK p k (ax r.T k)).2):=by
    unfold bn
    rw[if_pos hk,if_pos ⟨⟨Int.natCast_nonneg k,by omega⟩,hm⟩]
   rw[hst]
   refine⟨hm,d1,fun j hj=> ?_⟩
   have hj':j<(aK p k (ax r.T k)).1.length:=by simpa using hj
   have hq:=List.getElem_mem hj'
   obtain⟨m,hm2⟩:=ku (ns hl hk hk2 _ hq).1
   have hlt:=(ns hl hk hk2 _ hq).2
   refine⟨m,?_,by omega,?_⟩
   ·rw[<-hm2]
    show gt ((aK p k (ax r.T k)).1.map fun q=>q.1::staL q.2) (j:Int) 0=_
    have e3:((aK p k (ax r.T k)).1.map fun q=>q.1::staL q.2).getD j []=((aK p k (ax r.T k)).1[j]).1::staL ((aK p k (ax r.T k)).1[j]).2:=by
     rw[cW,ji,thm6 hj'];rfl
    unfold gt
    rw[dj,e3];rfl
   ·rw[qe (by omega),<-hm2]
    exact d2 _ hq
 ·unfold vrun at h
  rw[if_neg hk] at h
  exact absurd h hk
theorem aet (p:Prog) (i:Int) (s:Sta):(bn p i s).1.length<=2:=by
 have hw:∀(s:Sta) (d go cc:Int) (a b:Ty) (t k:Bool),(vway s d a b t go cc k).length<=1:=fun s d go cc a b t k=>by
  unfold vway
  split
  ·split
   ·exact Nat.le_refl _
   ·exact Nat.zero_le _
  ·exact Nat.le_refl _
 have hs:(aK p i s).1.length<=2:=by
  unfold aK
  split
  ·exact Nat.zero_le _
  split
  ·rw[eV]
   have h1:∀s b,(dp i (ab p.l i) s b).length<=1:=fun s b=>by
    unfold dp
    split
    ·exact Nat.zero_le _
    ·exact hw _ _ _ _ _ _ _ _
   have h2:∀s b,(fk i (ab p.l i) s b).length<=1:=fun s b=>by
    unfold fk
    split
    ·exact hw _ _ _ _ _ _ _ _
    ·exact Nat.zero_le _
   exact Nat.add_le_add (h1 _ _) (h2 _ _)
  ·exact Nat.zero_le _
 unfold bn
 split
 ·split
  ·rw[List.length_map];exact hs
  ·exact Nat.zero_le _
 ·exact Nat.zero_le _
theorem apw {p:Prog} (h:(vrun p).2.2.2≠0):(vrun p).1=[]/\(vrun p).2.1=[]:=by
 have hl:∀(n:Nat) (last:Int) (r:VR),(fl p n last r).2.2.2≠0->(fl p n last r).1=[]/\(fl p n last r).2.1=[]:=by
  intro n
  induction n with
  | zero=>
    intro last r h
    by_cases hw:r.w=0
    ·rw[dq hw] at h;exact absurd rfl h
    ·rw[fU hw];exact⟨rfl,rfl⟩
  | succ n ih=>
    intro last r h
    by_cases hw:r.w=0
    ·rw[dq hw] at h;exact absurd rfl h
    ·by_cases he:(aK p (tzI r.w) (ax r.T (tzI r.w))).2=0
     ·rw[iS hw he] at h ⊢;exact ih _ _ h
     ·rw[ko hw he];exact⟨rfl,rfl⟩
 unfold vrun at h ⊢
 split
 ·rename_i hk
  rw[if_pos hk] at h
  exact hl _ _ _ h
 ·exact⟨rfl,rfl⟩
def tys_SdC:List (Nat×TI):=[(2,tiq2),
 (3,tiq3),
 (37,gP),
 (42,fF),
 (44,gO),
 (46,kt),
 (48,akp),
 (50,⟨true,9,(zN 9 221122110),[(0,37),(1,48),(7,3),(8,3)],none,none,false,false,none,72,false,none,false,0⟩),
 (51,si),
 (52,sf),
 (54,ac0)]
theorem afk:(tys_SdC.all fun p=>ckTI Tryz.prog p.1 p.2)=true:=by kernel_rfl
theorem vJ:(tys_SdC.all fun p=>!p.2.eqok)=true:=by kernel_rfl
theorem aeY:(tys_SdC.all fun p=>!p.2.keyok)=true:=by kernel_rfl
theorem dE:∀t i,(t,i)∈tys_SdC->TIok Tryz.prog t i:=by
 intro t i h
 refine bB (cz (f:=ckTI Tryz.prog) afk h) (fun he=> ?_) (fun he=> ?_) (fun he=> ?_)
 ·have h1:=thm7.1 vJ (t,i) h
  simp[he] at h1
 ·have h1:=thm7.1 vJ (t,i) h
  simp[he] at h1
 ·have h1:=thm7.1 aeY (t,i) h
  simp[he] at h1
def oJ (key:Nat):Sm:=⟨90,key,[.agg kTy,.agg kTy,.one (.fn 91),.one .bool],[.agg kTy],false⟩
def ot (a:Ty) (b:Ty) (t:Bool):List Dt:=d_Ty (dl false t a b) ([])
def im:List Dt->List Dt
 | [.z x0,.z x1,.z x2,.z x3,.z x4,.z x5,.z x6,.z x7,.z x8,.z x9,.z x10,.z x11,.z x12,.z x13,.z x14,.z x15,.z x16,.z x17,.z x18]=>ot ⟨x0,x1,x2,x3,x4,x5,x6,x7,x8⟩ ⟨x9,x10,x11,x12,x13,x14,x15,x16,x17⟩ (x18==1)
 | _=>[]
def ao2:Tr:=(.leaf (.cons (.var 0) (.zs [0,0,0,0,0,0] (.cons (.mn (.var 7) (.var 16)) (.cons (.mx (.var 8) (.var 17)) .nil)))))
def sT_tjjoin:Tr:=
(.br (.eq (.var 0) (.lit 0))
(.leaf (.zs [0,0,0,0,0,0,0,0,0] .nil))
(.br (.eq (.var 9) (.lit 0))
(.leaf (.zs [0,0,0,0,0,0,0,0,0] .nil))
(.br (.eq (.var 0) (.var 9))
(.br (.eq (.var 0) (.lit 1))
(.call 1 (kSc) (.vs 1 6 (.vs 10 6 .nil)) 19
(.leaf (.cons (.var 0) (.vs 19 6 (.cons (.lit 0) (.cons (.lit 0) .nil))))))
(.br (.bw 18)
(.br (.lt (.mn (.var 7) (.var 16)) (.var 7))
(.br (.lt (.var 8) (.mx (.var 8) (.var 17)))
(.leaf (.cons (.var 0) (.zs [0,0,0,0,0,0,-1048576,1048576] .nil)))
(.leaf (.cons (.var 0) (.zs [0,0,0,0,0,0,-1048576] (.cons (.mx (.var 8) (.var 17)) .nil)))))
(.br (.lt (.var 8) (.mx (.var 8) (.var 17)))
(.leaf (.cons (.var 0) (.zs [0,0,0,0,0,0] (.cons (.mn (.var 7) (.var 16)) (.cons (.lit 1048576) .nil)))))
 ao2))
 ao2))
(.call 0 (kTy) .nil 19
(.leaf (.vs 19 9 .nil))))))
def wJ:Spec:={F:=fun k=>match k with | 0=>bQ | 1=>kM | _=>fun _=>[],pre:=fun _ _=>True}
theorem agC:ap tys_SdC [dX 0,tB 1] [] [] [] 200 Tryz.f90 [.agg kTy,.agg kTy,.one (.fn 91),.one .bool] [.agg kTy] false (v_Ty (v_Ty (.bool::([])))) sT_tjjoin:=⟨by kernel_rfl,by kernel_rfl,by kernel_rfl⟩
theorem af5 (a:Ty) (ha:Ty.ok a) (b:Ty) (hb:Ty.ok b) (t:Bool) (U:Env) (g:varsD U 0 (v_Ty (v_Ty (.bool::([]))))=(d_Ty a (d_Ty b (.z (b2i t)::([]))))):sT_tjjoin.asks wJ (fun U e=>e.D U=im (d_Ty a (d_Ty b (.z (b2i t)::([]))))) U fun _ _=>False:=by
 simp only[d_Ty,v_Ty,varsD,varD,thm5,gS0,Nat.reduceAdd,and_true] at g
 simp only[sT_tjjoin,ao2,wJ,d_Ty,kSc,kTy,bQ,kM,sI,im,ot,simQ,ai,S1,Nat.reduceSub,Nat.reduceAdd,-eq_self,am,g]
 constructor<;>intro c0
 ·rw[tj_a c0];try rfl
 constructor<;>intro c1
 ·rw[tj_b c1];try rfl
 constructor<;>intro c2
 constructor<;>intro c3
 intro e;(try simp only[e,am,-eq_self]);clear e
 ·rw[tj_1 c0 c1 c2 c3];try rfl
 constructor<;>intro c4
 constructor<;>intro c5
 constructor<;>intro c6
 ·rw[tj_p c0 c1 c2 c3,akn c4 c5,akq c4 c6];try rfl
 ·rw[tj_p c0 c1 c2 c3,akn c4 c5,akr c6];try rfl
 constructor<;>intro c7
 ·rw[tj_p c0 c1 c2 c3,ako c5,akq c4 c7];try rfl
 ·rw[tj_p c0 c1 c2 c3,ako c5,akr c7];try rfl
 ·rw[tj_p c0 c1 c2 c3,asX c4,as0 c4];try rfl
 intro e;(try simp only[e,am,-eq_self]);clear e
 ·rw[apB c0 c1 c2];try rfl
theorem ahN {sp:Spec} {key:Nat} (hF:sp.F key=im) (hP:sp.pre key=fun _=>True:=by rfl):SmOk Tryz.prog sp (oJ key):=
 aq (s:=oJ key) hF hP mxo7 dE (smc (gf rfl) (smc (al1 rfl) sm0)) Tryz.func90 fn0 agC (.inl rfl) (bi fun q0 gq0=>bi fun q1 gq1=>fun x18 hp U g=>af5 q0 gq0 q1 gq1 x18 U g)
def oL (key:Nat):Sm:=⟨89,key,[.agg kTy,.agg kTy],[.agg kTy],false⟩
def ov (a:Ty) (b:Ty):List Dt:=d_Ty (cA false a b) ([])
def ip:List Dt->List Dt
 | [.z x0,.z x1,.z x2,.z x3,.z x4,.z x5,.z x6,.z x7,.z x8,.z x9,.z x10,.z x11,.z x12,.z x13,.z x14,.z x15,.z x16,.z x17]=>ov ⟨x0,x1,x2,x3,x4,x5,x6,x7,x8⟩ ⟨x9,x10,x11,x12,x13,x14,x15,x16,x17⟩
 | _=>[]
def sT_tcjoin:Tr:=
(.call 0 (kTy) (.vs 0 18 (.cb (.tt false) .nil)) 18
(.leaf (.vs 18 9 .nil)))
def wM:Spec:={F:=fun k=>match k with | 0=>im | _=>fun _=>[],pre:=fun _ _=>True}
theorem agF:ap tys_SdC [oJ 0] [] [] [] 200 Tryz.f89 [.agg kTy,.agg kTy] [.agg kTy] false (v_Ty (v_Ty ([]))) sT_tcjoin:=⟨by kernel_rfl,by kernel_rfl,by kernel_rfl⟩
theorem af8 (a:Ty) (ha:Ty.ok a) (b:Ty) (hb:Ty.ok b) (U:Env) (g:varsD U 0 (v_Ty (v_Ty ([])))=(d_Ty a (d_Ty b ([])))):sT_tcjoin.asks wM (fun U e=>e.D U=ip (d_Ty a (d_Ty b ([])))) U fun _ _=>False:=by
 simp only[d_Ty,v_Ty,varsD,varD,thm5,gS0,Nat.reduceAdd,and_true] at g
 simp only[sT_tcjoin,wM,d_Ty,kTy,im,ot,ip,ov,simQ,ai,S1,Nat.reduceSub,Nat.reduceAdd,-eq_self,am,g]
 intro e;(try simp only[e,am,-eq_self]);clear e
 ·rfl
theorem ahQ {sp:Spec} {key:Nat} (hF:sp.F key=ip) (hP:sp.pre key=fun _=>True:=by rfl):SmOk Tryz.prog sp (oL key):=
 aq (s:=oL key) hF hP mxo7 dE (smc (ahN rfl) sm0) Tryz.func89 fn0 agF (.inl rfl) (bi fun q0 gq0=>bi fun q1 gq1=>fun hp U g=>af8 q0 gq0 q1 gq1 U g)
def oK (key:Nat):Sm:=⟨73,key,[.agg kSta,.agg kSta,.one (.fn 89)],[.agg kSta,.one (.int .i64)],true⟩
def ou (a:Sta) (b:Sta):List Dt:=av (jF false a b) (.z (serr a b)::([]))
def fM:List Dt->List Dt:=bL fun a=>bL fun b=>fun _=>ou a b
def sT_tejoin:Tr:=
(.call 0 [.bool] (.vs 0 171 .nil) 342
(.br (.bw 342)
(.call 0 [.bool] (.vs 171 171 .nil) 343
(.br (.bw 343)
(.call 1 (kTy) (.vs 0 9 (.vs 171 9 .nil)) 344
(.call 1 (kTy) (.vs 9 9 (.vs 180 9 .nil)) 353
(.call 1 (kTy) (.vs 18 9 (.vs 189 9 .nil)) 362
(.call 1 (kTy) (.vs 27 9 (.vs 198 9 .nil)) 371
(.call 1 (kTy) (.vs 36 9 (.vs 207 9 .nil)) 380
(.call 1 (kTy) (.vs 45 9 (.vs 216 9 .nil)) 389
(.call 1 (kTy) (.vs 54 9 (.vs 225 9 .nil)) 398
(.call 1 (kTy) (.vs 63 9 (.vs 234 9 .nil)) 407
(.call 1 (kTy) (.vs 72 9 (.vs 243 9 .nil)) 416
(.call 1 (kTy) (.vs 81 9 (.vs 252 9 .nil)) 425
(.call 1 (kTy) (.vs 90 9 (.vs 261 9 .nil)) 434
(.call 1 (kTy) (.vs 99 9 (.vs 270 9 .nil)) 443
(.call 1 (kTy) (.vs 108 9 (.vs 279 9 .nil)) 452
(.call 1 (kTy) (.vs 117 9 (.vs 288 9 .nil)) 461
(.call 1 (kTy) (.vs 126 9 (.vs 297 9 .nil)) 470
(.call 1 (kTy) (.vs 135 9 (.vs 306 9 .nil)) 479
(.call 1 (kTy) (.vs 144 9 (.vs 315 9 .nil)) 488
(.call 1 (kTy) (.vs 153 9 (.vs 324 9 .nil)) 497
(.call 1 (kTy) (.vs 162 9 (.vs 333 9 .nil)) 506
(.leaf (.vs 344 171 (.cons (.lit 0) .nil))))))))))))))))))))))
(.leaf (.zs [0,0,0,0,0,0,0,0,0,0,0,0,0,0,0,0,0,0,0,0,0,0,0,0,0,0,0,0,0,0,0,0,0,0,0,0,0,0,0,0,0,0,0,0,0,0,0,0,0,0,0,0,0,0,0,0,0,0,0,0,0,0,0,0,0,0,0,0,0,0,0,0,0,0,0,0,0,0,0,0,0,0,0,0,0,0,0,0,0,0,0,0,0,0,0,0,0,0,0,0,0,0,0,0,0,0,0,0,0,0,0,0,0,0,0,0,0,0,0,0,0,0,0,0,0,0,0,0,0,0,0,0,0,0,0,0,0,0,0,0,0,0,0,0,0,0,0,0,0,0,0,0,0,0,0,0,0,0,0,0,0,0,0,0,0,0,0,0,0,0,0,2] .nil))))
(.leaf (.zs [0,0,0,0,0,0,0,0,0,0,0,0,0,0,0,0,0,0,0,0,0,0,0,0,0,0,0,0,0,0,0,0,0,0,0,0,0,0,0,0,0,0,0,0,0,0,0,0,0,0,0,0,0,0,0,0,0,0,0,0,0,0,0,0,0,0,0,0,0,0,0,0,0,0,0,0,0,0,0,0,0,0,0,0,0,0,0,0,0,0,0,0,0,0,0,0,0,0,0,0,0,0,0,0,0,0,0,0,0,0,0,0,0,0,0,0,0,0,0,0,0,0,0,0,0,0,0,0,0,0,0,0,0,0,0,0,0,0,0,0,0,0,0,0,0,0,0,0,0,0,0,0,0,0,0,0,0,0,0,0,0,0,0,0,0,0,0,0,0,0,0,2] .nil))))
def wL:Spec:={F:=fun k=>match k with | 0=>bY | 1=>ip | _=>fun _=>[],pre:=fun _ _=>True}
theorem agE:ap tys_SdC [hG 0,oL 1] [] [] [] 200 Tryz.f73 [.agg kSta,.agg kSta,.one (.fn 89)] [.agg kSta,.one (.int .i64)] true (bG (bG ([]))) sT_tejoin:=⟨by kernel_rfl,by kernel_rfl,by kernel_rfl⟩
theorem af7 (a:Sta) (ha:Sta.ok a) (b:Sta) (hb:Sta.ok b) (U:Env) (g:varsD U 0 (bG (bG ([])))=(av a (av b ([])))):sT_tejoin.asks wL (fun U e=>e.D U=fM (av a (av b ([])))) U fun _ _=>False:=by
 simp only[fM,bp,fx,rdZ,rdB]
 simp only[av,d_Ty,bG,v_Ty,varsD,varD,thm5,gS0,Nat.reduceAdd,and_true] at g
 simp(maxSteps:=10000000) only[sT_tejoin,wL,av,d_Ty,kTy,bL,cY,bY,ip,me,ov,fM,ou,simQ,ai,S1,Nat.reduceSub,Nat.reduceAdd,-eq_self,am,g]
 intro e;(try simp only[e,am,-eq_self]);clear e
 constructor<;>intro c0
 intro e;(try simp only[e,am,-eq_self]);clear e
 constructor<;>intro c1
 intro e;(try simp only[e,am,-eq_self]);clear e
 intro e;(try simp only[e,am,-eq_self]);clear e
 intro e;(try simp only[e,am,-eq_self]);clear e
 intro e;(try simp only[e,am,-eq_self]);clear e
 intro e;(try simp only[e,am,-eq_self]);clear e
 intro e;(try simp only[e,am,-eq_self]);clear e
 intro e;(try simp only[e,am,-eq_self]);clear e
 intro e;(try simp only[e,am,-eq_self]);clear e
 intro e;(try simp only[e,am,-eq_self]);clear e
 intro e;(try simp only[e,am,-eq_self]);clear e
 intro e;(try simp only[e,am,-eq_self]);clear e
 intro e;(try simp only[e,am,-eq_self]);clear e
 intro e;(try simp only[e,am,-eq_self]);clear e
 intro e;(try simp only[e,am,-eq_self]);clear e
 intro e;(try simp only[e,am,-eq_self]);clear e
 intro e;(try simp only[e,am,-eq_self]);clear e
 intro e;(try simp only[e,am,-eq_self]);clear e
 intro e;(try simp only[e,am,-eq_self]);clear e
 intro e;(try simp only[e,am,-eq_self]);clear e
 ·rw[(qL c0 c1).1,(qL (w:=true) c0 c1).2];rfl
 ·rw[(wm (.inr c1)).1,(wm (w:=true) (.inr c1)).2];rfl
 ·rw[(wm (.inl c0)).1,(wm (w:=true) (.inl c0)).2];rfl
theorem ahP {sp:Spec} {key:Nat} (hF:sp.F key=fM) (hP:sp.pre key=fun _=>True:=by rfl):SmOk Tryz.prog sp (oK key):=
 aq (s:=oK key) hF hP mxo7 dE (smc (mj rfl) (smc (ahQ rfl) sm0)) Tryz.func73 fn0 agE (.inl rfl) (cS fun q0 gq0=>cS fun q1 gq1=>fun hp U g=>af7 q0 gq0 q1 gq1 U g)
def oI (key:Nat):Sm:=⟨39,key,[.agg kSta,.agg kSta],[.agg kSta,.one (.int .i64)],true⟩
def ww (a:Sta) (b:Sta):List Dt:=av (jF false a b) (.z (serr a b)::([]))
def ey:List Dt->List Dt:=bL fun a=>bL fun b=>fun _=>ww a b
def sT_tsjoin:Tr:=
(.call 0 (kSta++[.int .i64]) (.vs 0 342 .nil) 342
(.leaf (.vs 342 172 .nil)))
def wI:Spec:={F:=fun k=>match k with | 0=>fM | _=>fun _=>[],pre:=fun _ _=>True}
theorem agB:ap tys_SdC [oK 0] [] [] [] 200 Tryz.f39 [.agg kSta,.agg kSta] [.agg kSta,.one (.int .i64)] true (bG (bG ([]))) sT_tsjoin:=⟨by kernel_rfl,by kernel_rfl,by kernel_rfl⟩
theorem af4 (a:Sta) (ha:Sta.ok a) (b:Sta) (hb:Sta.ok b) (U:Env) (g:varsD U 0 (bG (bG ([])))=(av a (av b ([])))):sT_tsjoin.asks wI (fun U e=>e.D U=ey (av a (av b ([])))) U fun _ _=>False:=by
 simp only[ey,bp,fx,rdZ,rdB]
 simp only[av,d_Ty,bG,v_Ty,varsD,varD,thm5,gS0,Nat.reduceAdd,and_true] at g
 simp(maxSteps:=10000000) only[sT_tsjoin,wI,av,d_Ty,kSta,bL,cY,fM,ou,ey,ww,simQ,ai,S1,Nat.reduceSub,Nat.reduceAdd,-eq_self,am,g]
 intro e;(try simp only[e,am,-eq_self]);clear e
 ·rfl
theorem ahM {sp:Spec} {key:Nat} (hF:sp.F key=ey) (hP:sp.pre key=fun _=>True:=by rfl):SmOk Tryz.prog sp (oI key):=
 aq (s:=oI key) hF hP mxo7 dE (smc (ahP rfl) sm0) Tryz.func39 fn0 agB (.inl rfl) (cS fun q0 gq0=>cS fun q1 gq1=>fun hp U g=>af4 q0 gq0 q1 gq1 U g)
def tN (key:Nat):Sm:=⟨90,key,[.agg kTy,.agg kTy,.one (.fn 93),.one .bool],[.agg kTy],false⟩
def sP (a:Ty) (b:Ty) (t:Bool):List Dt:=d_Ty (dl true t a b) ([])
def kU:List Dt->List Dt
 | [.z x0,.z x1,.z x2,.z x3,.z x4,.z x5,.z x6,.z x7,.z x8,.z x9,.z x10,.z x11,.z x12,.z x13,.z x14,.z x15,.z x16,.z x17,.z x18]=>sP ⟨x0,x1,x2,x3,x4,x5,x6,x7,x8⟩ ⟨x9,x10,x11,x12,x13,x14,x15,x16,x17⟩ (x18==1)
 | _=>[]
def ao1:Tr:=(.leaf (.cons (.var 0) (.zs [0,0,0,0,0,0] (.cons (.mn (.var 7) (.var 16)) (.cons (.mx (.var 8) (.var 17)) .nil)))))
def sT_tjwid:Tr:=
(.br (.eq (.var 0) (.lit 0))
(.leaf (.zs [0,0,0,0,0,0,0,0,0] .nil))
(.br (.eq (.var 9) (.lit 0))
(.leaf (.zs [0,0,0,0,0,0,0,0,0] .nil))
(.br (.eq (.var 0) (.var 9))
(.br (.eq (.var 0) (.lit 1))
(.call 1 (kSc) (.vs 1 6 (.vs 10 6 .nil)) 19
(.leaf (.cons (.var 0) (.vs 19 6 (.cons (.lit 0) (.cons (.lit 0) .nil))))))
(.br (.bw 18)
(.br (.lt (.mn (.var 7) (.var 16)) (.var 7))
(.br (.lt (.var 8) (.mx (.var 8) (.var 17)))
(.leaf (.cons (.var 0) (.zs [0,0,0,0,0,0,-1048576,1048576] .nil)))
(.leaf (.cons (.var 0) (.zs [0,0,0,0,0,0,-1048576] (.cons (.mx (.var 8) (.var 17)) .nil)))))
(.br (.lt (.var 8) (.mx (.var 8) (.var 17)))
(.leaf (.cons (.var 0) (.zs [0,0,0,0,0,0] (.cons (.mn (.var 7) (.var 16)) (.cons (.lit 1048576) .nil)))))
 ao1))
 ao1))
(.call 0 (kTy) .nil 19
(.leaf (.vs 19 9 .nil))))))
def abr:Spec:={F:=fun k=>match k with | 0=>bQ | 1=>oW | _=>fun _=>[],pre:=fun _ _=>True}
theorem alH:ap tys_SdC [dX 0,zj 1] [] [] [] 200 Tryz.f90 [.agg kTy,.agg kTy,.one (.fn 93),.one .bool] [.agg kTy] false (v_Ty (v_Ty (.bool::([])))) sT_tjwid:=⟨by kernel_rfl,by kernel_rfl,by kernel_rfl⟩
theorem ak7 (a:Ty) (ha:Ty.ok a) (b:Ty) (hb:Ty.ok b) (t:Bool) (U:Env) (g:varsD U 0 (v_Ty (v_Ty (.bool::([]))))=(d_Ty a (d_Ty b (.z (b2i t)::([]))))):sT_tjwid.asks abr (fun U e=>e.D U=kU (d_Ty a (d_Ty b (.z (b2i t)::([]))))) U fun _ _=>False:=by
 simp only[d_Ty,v_Ty,varsD,varD,thm5,gS0,Nat.reduceAdd,and_true] at g
 simp only[sT_tjwid,ao1,abr,d_Ty,kSc,kTy,bQ,oW,yS,kU,sP,simQ,ai,S1,Nat.reduceSub,Nat.reduceAdd,-eq_self,am,g]
 constructor<;>intro c0
 ·rw[tj_a c0];try rfl
 constructor<;>intro c1
 ·rw[tj_b c1];try rfl
 constructor<;>intro c2
 constructor<;>intro c3
 intro e;(try simp only[e,am,-eq_self]);clear e
 ·rw[tj_1 c0 c1 c2 c3];try rfl
 constructor<;>intro c4
 constructor<;>intro c5
 constructor<;>intro c6
 ·rw[tj_p c0 c1 c2 c3,akn c4 c5,akq c4 c6];try rfl
 ·rw[tj_p c0 c1 c2 c3,akn c4 c5,akr c6];try rfl
 constructor<;>intro c7
 ·rw[tj_p c0 c1 c2 c3,ako c5,akq c4 c7];try rfl
 ·rw[tj_p c0 c1 c2 c3,ako c5,akr c7];try rfl
 ·rw[tj_p c0 c1 c2 c3,asX c4,as0 c4];try rfl
 intro e;(try simp only[e,am,-eq_self]);clear e
 ·rw[apB c0 c1 c2];try rfl
theorem al9 {sp:Spec} {key:Nat} (hF:sp.F key=kU) (hP:sp.pre key=fun _=>True:=by rfl):SmOk Tryz.prog sp (tN key):=
 aq (s:=tN key) hF hP mxo7 dE (smc (gf rfl) (smc (ari rfl) sm0)) Tryz.func90 fn0 alH (.inl rfl) (bi fun q0 gq0=>bi fun q1 gq1=>fun x18 hp U g=>ak7 q0 gq0 q1 gq1 x18 U g)
def tQ (key:Nat):Sm:=⟨92,key,[.agg kTy,.agg kTy],[.agg kTy],false⟩
def sS (a:Ty) (b:Ty):List Dt:=d_Ty (cA true a b) ([])
def kV:List Dt->List Dt
 | [.z x0,.z x1,.z x2,.z x3,.z x4,.z x5,.z x6,.z x7,.z x8,.z x9,.z x10,.z x11,.z x12,.z x13,.z x14,.z x15,.z x16,.z x17]=>sS ⟨x0,x1,x2,x3,x4,x5,x6,x7,x8⟩ ⟨x9,x10,x11,x12,x13,x14,x15,x16,x17⟩
 | _=>[]
def sT_tcwid:Tr:=
(.call 0 (kTy) (.vs 0 18 (.cb (.tt true) .nil)) 18
(.leaf (.vs 18 9 .nil)))
def abu:Spec:={F:=fun k=>match k with | 0=>kU | _=>fun _=>[],pre:=fun _ _=>True}
theorem alJ:ap tys_SdC [tN 0] [] [] [] 200 Tryz.f92 [.agg kTy,.agg kTy] [.agg kTy] false (v_Ty (v_Ty ([]))) sT_tcwid:=⟨by kernel_rfl,by kernel_rfl,by kernel_rfl⟩
theorem ak9 (a:Ty) (ha:Ty.ok a) (b:Ty) (hb:Ty.ok b) (U:Env) (g:varsD U 0 (v_Ty (v_Ty ([])))=(d_Ty a (d_Ty b ([])))):sT_tcwid.asks abu (fun U e=>e.D U=kV (d_Ty a (d_Ty b ([])))) U fun _ _=>False:=by
 simp only[d_Ty,v_Ty,varsD,varD,thm5,gS0,Nat.reduceAdd,and_true] at g
 simp only[sT_tcwid,abu,d_Ty,kTy,kU,sP,kV,sS,simQ,ai,S1,Nat.reduceSub,Nat.reduceAdd,-eq_self,am,g]
 intro e;(try simp only[e,am,-eq_self]);clear e
 ·rfl
theorem amb {sp:Spec} {key:Nat} (hF:sp.F key=kV) (hP:sp.pre key=fun _=>True:=by rfl):SmOk Tryz.prog sp (tQ key):=
 aq (s:=tQ key) hF hP mxo7 dE (smc (al9 rfl) sm0) Tryz.func92 fn0 alJ (.inl rfl) (bi fun q0 gq0=>bi fun q1 gq1=>fun hp U g=>ak9 q0 gq0 q1 gq1 U g)
def tP (key:Nat):Sm:=⟨73,key,[.agg kSta,.agg kSta,.one (.fn 92)],[.agg kSta,.one (.int .i64)],true⟩
def sR (a:Sta) (b:Sta):List Dt:=av (jF true a b) (.z (serr a b)::([]))
def iV:List Dt->List Dt:=bL fun a=>bL fun b=>fun _=>sR a b
def sT_tewid:Tr:=
(.call 0 [.bool] (.vs 0 171 .nil) 342
(.br (.bw 342)
(.call 0 [.bool] (.vs 171 171 .nil) 343
(.br (.bw 343)
(.call 1 (kTy) (.vs 0 9 (.vs 171 9 .nil)) 344
(.call 1 (kTy) (.vs 9 9 (.vs 180 9 .nil)) 353
(.call 1 (kTy) (.vs 18 9 (.vs 189 9 .nil)) 362
(.call 1 (kTy) (.vs 27 9 (.vs 198 9 .nil)) 371
(.call 1 (kTy) (.vs 36 9 (.vs 207 9 .nil)) 380
(.call 1 (kTy) (.vs 45 9 (.vs 216 9 .nil)) 389
(.call 1 (kTy) (.vs 54 9 (.vs 225 9 .nil)) 398
(.call 1 (kTy) (.vs 63 9 (.vs 234 9 .nil)) 407
(.call 1 (kTy) (.vs 72 9 (.vs 243 9 .nil)) 416
(.call 1 (kTy) (.vs 81 9 (.vs 252 9 .nil)) 425
(.call 1 (kTy) (.vs 90 9 (.vs 261 9 .nil)) 434
(.call 1 (kTy) (.vs 99 9 (.vs 270 9 .nil)) 443
(.call 1 (kTy) (.vs 108 9 (.vs 279 9 .nil)) 452
(.call 1 (kTy) (.vs 117 9 (.vs 288 9 .nil)) 461
(.call 1 (kTy) (.vs 126 9 (.vs 297 9 .nil)) 470
(.call 1 (kTy) (.vs 135 9 (.vs 306 9 .nil)) 479
(.call 1 (kTy) (.vs 144 9 (.vs 315 9 .nil)) 488
(.call 1 (kTy) (.vs 153 9 (.vs 324 9 .nil)) 497
(.call 1 (kTy) (.vs 162 9 (.vs 333 9 .nil)) 506
(.leaf (.vs 344 171 (.cons (.lit 0) .nil))))))))))))))))))))))
(.leaf (.zs [0,0,0,0,0,0,0,0,0,0,0,0,0,0,0,0,0,0,0,0,0,0,0,0,0,0,0,0,0,0,0,0,0,0,0,0,0,0,0,0,0,0,0,0,0,0,0,0,0,0,0,0,0,0,0,0,0,0,0,0,0,0,0,0,0,0,0,0,0,0,0,0,0,0,0,0,0,0,0,0,0,0,0,0,0,0,0,0,0,0,0,0,0,0,0,0,0,0,0,0,0,0,0,0,0,0,0,0,0,0,0,0,0,0,0,0,0,0,0,0,0,0,0,0,0,0,0,0,0,0,0,0,0,0,0,0,0,0,0,0,0,0,0,0,0,0,0,0,0,0,0,0,0,0,0,0,0,0,0,0,0,0,0,0,0,0,0,0,0,0,0,2] .nil))))
(.leaf (.zs [0,0,0,0,0,0,0,0,0,0,0,0,0,0,0,0,0,0,0,0,0,0,0,0,0,0,0,0,0,0,0,0,0,0,0,0,0,0,0,0,0,0,0,0,0,0,0,0,0,0,0,0,0,0,0,0,0,0,0,0,0,0,0,0,0,0,0,0,0,0,0,0,0,0,0,0,0,0,0,0,0,0,0,0,0,0,0,0,0,0,0,0,0,0,0,0,0,0,0,0,0,0,0,0,0,0,0,0,0,0,0,0,0,0,0,0,0,0,0,0,0,0,0,0,0,0,0,0,0,0,0,0,0,0,0,0,0,0,0,0,0,0,0,0,0,0,0,0,0,0,0,0,0,0,0,0,0,0,0,0,0,0,0,0,0,0,0,0,0,0,0,2] .nil))))
def abt:Spec:={F:=fun k=>match k with | 0=>bY | 1=>kV | _=>fun _=>[],pre:=fun _ _=>True}
theorem alI:ap tys_SdC [hG 0,tQ 1] [] [] [] 200 Tryz.f73 [.agg kSta,.agg kSta,.one (.fn 92)] [.agg kSta,.one (.int .i64)] true (bG (bG ([]))) sT_tewid:=⟨by kernel_rfl,by kernel_rfl,by kernel_rfl⟩
theorem ak8 (a:Sta) (ha:Sta.ok a) (b:Sta) (hb:Sta.ok b) (U:Env) (g:varsD U 0 (bG (bG ([])))=(av a (av b ([])))):sT_tewid.asks abt (fun U e=>e.D U=iV (av a (av b ([])))) U fun _ _=>False:=by
 simp only[iV,bp,fx,rdZ,rdB]
 simp only[av,d_Ty,bG,v_Ty,varsD,varD,thm5,gS0,Nat.reduceAdd,and_true] at g
 simp(maxSteps:=10000000) only[sT_tewid,abt,av,d_Ty,kTy,bL,cY,bY,kV,me,sS,iV,sR,simQ,ai,S1,Nat.reduceSub,Nat.reduceAdd,-eq_self,am,g]
 intro e;(try simp only[e,am,-eq_self]);clear e
 constructor<;>intro c0
 intro e;(try simp only[e,am,-eq_self]);clear e
 constructor<;>intro c1
 intro e;(try simp only[e,am,-eq_self]);clear e
 intro e;(try simp only[e,am,-eq_self]);clear e
 intro e;(try simp only[e,am,-eq_self]);clear e
 intro e;(try simp only[e,am,-eq_self]);clear e
 intro e;(try simp only[e,am,-eq_self]);clear e
 intro e;(try simp only[e,am,-eq_self]);clear e
 intro e;(try simp only[e,am,-eq_self]);clear e
 intro e;(try simp only[e,am,-eq_self]);clear e
 intro e;(try simp only[e,am,-eq_self]);clear e
 intro e;(try simp only[e,am,-eq_self]);clear e
 intro e;(try simp only[e,am,-eq_self]);clear e
 intro e;(try simp only[e,am,-eq_self]);clear e
 intro e;(try simp only[e,am,-eq_self]);clear e
 intro e;(try simp only[e,am,-eq_self]);clear e
 intro e;(try simp only[e,am,-eq_self]);clear e
 intro e;(try simp only[e,am,-eq_self]);clear e
 intro e;(try simp only[e,am,-eq_self]);clear e
 intro e;(try simp only[e,am,-eq_self]);clear e
 intro e;(try simp only[e,am,-eq_self]);clear e
 ·rw[(qL c0 c1).1,(qL (w:=true) c0 c1).2];rfl
 ·rw[(wm (.inr c1)).1,(wm (w:=true) (.inr c1)).2];rfl
 ·rw[(wm (.inl c0)).1,(wm (w:=true) (.inl c0)).2];rfl
theorem ama {sp:Spec} {key:Nat} (hF:sp.F key=iV) (hP:sp.pre key=fun _=>True:=by rfl):SmOk Tryz.prog sp (tP key):=
 aq (s:=tP key) hF hP mxo7 dE (smc (mj rfl) (smc (amb rfl) sm0)) Tryz.func73 fn0 alI (.inl rfl) (cS fun q0 gq0=>cS fun q1 gq1=>fun hp U g=>ak8 q0 gq0 q1 gq1 U g)
def tM (key:Nat):Sm:=⟨40,key,[.agg kSta,.agg kSta],[.agg kSta,.one (.int .i64)],true⟩
def aa8 (a:Sta) (b:Sta):List Dt:=av (jF true a b) (.z (serr a b)::([]))
def gk:List Dt->List Dt:=bL fun a=>bL fun b=>fun _=>aa8 a b
def sT_tswid:Tr:=
(.call 0 (kSta++[.int .i64]) (.vs 0 342 .nil) 342
(.leaf (.vs 342 172 .nil)))
def abo:Spec:={F:=fun k=>match k with | 0=>iV | _=>fun _=>[],pre:=fun _ _=>True}
theorem alE:ap tys_SdC [tP 0] [] [] [] 200 Tryz.f40 [.agg kSta,.agg kSta] [.agg kSta,.one (.int .i64)] true (bG (bG ([]))) sT_tswid:=⟨by kernel_rfl,by kernel_rfl,by kernel_rfl⟩
theorem ak4 (a:Sta) (ha:Sta.ok a) (b:Sta) (hb:Sta.ok b) (U:Env) (g:varsD U 0 (bG (bG ([])))=(av a (av b ([])))):sT_tswid.asks abo (fun U e=>e.D U=gk (av a (av b ([])))) U fun _ _=>False:=by
 simp only[gk,bp,fx,rdZ,rdB]
 simp only[av,d_Ty,bG,v_Ty,varsD,varD,thm5,gS0,Nat.reduceAdd,and_true] at g
 simp(maxSteps:=10000000) only[sT_tswid,abo,av,d_Ty,kSta,bL,cY,iV,sR,gk,aa8,simQ,ai,S1,Nat.reduceSub,Nat.reduceAdd,-eq_self,am,g]
 intro e;(try simp only[e,am,-eq_self]);clear e
 ·rfl
theorem al8 {sp:Spec} {key:Nat} (hF:sp.F key=gk) (hP:sp.pre key=fun _=>True:=by rfl):SmOk Tryz.prog sp (tM key):=
 aq (s:=tM key) hF hP mxo7 dE (smc (ama rfl) sm0) Tryz.func40 fn0 alE (.inl rfl) (cS fun q0 gq0=>cS fun q1 gq1=>fun hp U g=>ak4 q0 gq0 q1 gq1 U g)
end Go.Proofs.YtfkhblmeioiciaaGreatDoor
