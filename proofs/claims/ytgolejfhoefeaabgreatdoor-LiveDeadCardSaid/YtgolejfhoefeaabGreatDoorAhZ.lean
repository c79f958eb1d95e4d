import Derived.Test.YtgolejfhoefeaabGreatDoorAgZ
import Derived.Test.YtgolejfhoefeaabGreatDoorChecked
import Derived.Shelf.Spec.TrailingZeros
import Derived.DeepKeys3
import Derived.Test.YtgolejfhoefeaabGreatDoorProg
import Derived.Laws.Externs
set_option maxRecDepth 100000
set_option maxHeartbeats 8000000
set_option linter.defProp false
set_option linter.unusedVariables false
set_option linter.unusedSimpArgs false
namespace Go.Proofs.YtgolejfhoefeaabGreatDoor
open Option renaming some->ZA,none->ZD
open Bool renaming true->ZB,false->ZC,not_eq_true'->ZL,false_eq_true->ZY
open Nat renaming reduceAdd->ZE,reduceSub->YI,le_refl->YJ,pow_le_pow_right->YY
open Go.Proofs.Tryz renaming prog->ZF
open Go.IntKind renaming wrap->ZG,signed->ZQ,bits->YS
open BitVec renaming ofInt->ZJ
open List renaming replicate->YK,length_cons->YM,nil_append->ZM,cons_append->YN,mem_cons->ZN,append_nil->YO,flatMap_cons->ZO,length_take->YQ,map_cons->YR,mem_append->ZS,length_set->YU,length_drop->ZV,flatMap_nil->YW
open Go.Proofs.Tryz
open Go Go.RowKit
variable {n v a lo hi size b d fu q left op e cc:Int}{l cx L ws an T:LL}{i k m j R t:Nat}{w:Bool}{P:Program}{p q2:Prop}{s:Sc}{ks:List CE}{z:List C}{ρ σ:Env}
def w8(b0 b1 b2 b3 b4 b5 b6 b7:Int):Int:=b0+256*(b1+256*(b2+256*(b3+256*(b4+256*(b5+256*(b6+256*b7))))))
def amx(v:Int):Ac .and .i64 v 1=v % 2:=by
 show bits .and .i64 v 1=_;unfold bits;simp only[YS];have h1:(ZJ 64 v &&& ZJ 64 1).toNat=(v % 2).toNat:=by rw[BitVec.toNat_and,show(ZJ 64 1).toNat=1 from rfl,nat_mask1,BitVec.toNat_ofInt];have:(0:Int)<=v % (18446744073709551616:Int):=Int.emod_nonneg _ Fn;show(v % (18446744073709551616:Int)).toNat % 2=_;omega
 show IntKind.i64.wrap (((ZJ 64 v &&& ZJ 64 1).toNat:Nat):Int)=_;rw[h1,aK];omega
def Lt(set i:Int):Bool:=Ac .and .i64 (Ac .shr .i64 set i) 1==1
structure Snap where
 r0:Int
 r1:Int
 r2:Int
 r3:Int
 r4:Int
 r5:Int
 r6:Int
 r7:Int
 r8:Int
 r9:Int
 r10:Int
 set:Int
 f0:Int
 f1:Int
 f2:Int
 f3:Int
 f4:Int
 f5:Int
 f6:Int
 f7:Int
 f8:Int
 f9:Int
 f10:Int
 f11:Int
 f12:Int
 f13:Int
 f14:Int
 f15:Int
 f16:Int
 f17:Int
 f18:Int
 f19:Int
 f20:Int
 f21:Int
 f22:Int
 f23:Int
 f24:Int
 f25:Int
 f26:Int
 f27:Int
 f28:Int
 f29:Int
 f30:Int
 f31:Int
 f32:Int
 f33:Int
 f34:Int
 f35:Int
 f36:Int
 f37:Int
 f38:Int
 f39:Int
 f40:Int
 f41:Int
 f42:Int
 f43:Int
 f44:Int
 f45:Int
 f46:Int
 f47:Int
 f48:Int
 f49:Int
 f50:Int
 f51:Int
 f52:Int
 f53:Int
 f54:Int
 f55:Int
 f56:Int
 f57:Int
 f58:Int
 f59:Int
 f60:Int
 f61:Int
 f62:Int
 f63:Int
def bU(x:Snap):Nat->Int
 |0=>w8 x.f0 x.f1 x.f2 x.f3 x.f4 x.f5 x.f6 x.f7
 |1=>w8 x.f8 x.f9 x.f10 x.f11 x.f12 x.f13 x.f14 x.f15
 |2=>w8 x.f16 x.f17 x.f18 x.f19 x.f20 x.f21 x.f22 x.f23
 |3=>w8 x.f24 x.f25 x.f26 x.f27 x.f28 x.f29 x.f30 x.f31
 |4=>w8 x.f32 x.f33 x.f34 x.f35 x.f36 x.f37 x.f38 x.f39
 |5=>w8 x.f40 x.f41 x.f42 x.f43 x.f44 x.f45 x.f46 x.f47
 |6=>w8 x.f48 x.f49 x.f50 x.f51 x.f52 x.f53 x.f54 x.f55
 |7=>w8 x.f56 x.f57 x.f58 x.f59 x.f60 x.f61 x.f62 x.f63
 |_=>0
def rok(set i:Int)(t:Ty)(v:Int):Bool:=(t.k==0||Lt set i)&&bm t v
def EJ(s:Sta)(x:Snap):Bool:=AV s&&(rok x.set 0 s.r0 x.r0&&(rok x.set 1 s.r1 x.r1&&(rok x.set 2 s.r2 x.r2&&(rok x.set 3 s.r3 x.r3&&(rok x.set 4 s.r4 x.r4&&(rok x.set 5 s.r5 x.r5&&(rok x.set 6 s.r6 x.r6&&(rok x.set 7 s.r7 x.r7&&(rok x.set 8 s.r8 x.r8&&(rok x.set 9 s.r9 x.r9&&(rok x.set 10 s.r10 x.r10&&(bm s.s0 (bU x 0)&&(bm s.s1 (bU x 1)&&(bm s.s2 (bU x 2)&&(bm s.s3 (bU x 3)&&(bm s.s4 (bU x 4)&&(bm s.s5 (bU x 5)&&(bm s.s6 (bU x 6)&&bm s.s7 (bU x 7)))))))))))))))))))
def BL(s:Sta)(lo hi size:Int):Bool:=(size==1||(size==2||(size==4||size==8)))&&(decide (0<=lo)&&(decide (lo<=hi)&&(decide (hi<=Ac .sub .i64 64 size)&&AV s)))
def DR(lo hi size:Int):Bool:=(size==8)&&((lo==hi)&&(Ac .rem .i64 lo 8==0))
def nI(s:Sta)(n:Int):Ty:=if n=0 then s.s0 else if n=1 then s.s1 else if n=2 then s.s2 else if n=3 then s.s3 else if n=4 then s.s4 else if n=5 then s.s5 else if n=6 then s.s6 else s.s7
def oR(s:Sta)(lo hi size:Int):Ty:=if BL s lo hi size=ZB then(if DR lo hi size=ZB then nI s (Ac .quo .i64 lo 8)else ty 1 (C5 size) 0 0)else tnil
def qa(s:Sta)(lo hi size:Int):Int:=if BL s lo hi size=ZB then 0 else 2
def BA(s:Sta)(p:Int->Bool)(t:Ty):Sta:={s with s0:=if p 0=ZB then t else s.s0,s1:=if p 1=ZB then t else s.s1,s2:=if p 2=ZB then t else s.s2,s3:=if p 3=ZB then t else s.s3,s4:=if p 4=ZB then t else s.s4,s5:=if p 5=ZB then t else s.s5,s6:=if p 6=ZB then t else s.s6,s7:=if p 7=ZB then t else s.s7}
def je(s:Sta)(lo hi size:Int)(t:Ty):Sta:=if BL s lo hi size=ZB/\tset t=ZB then(if DR lo hi size=ZB then BA s (fun k=>k==Ac .quo .i64 lo 8) t else BA s (fun k=>decide (lo<8*k+8)&&decide (8*k<hi+size)) tscal)else Kz
def nJ(s:Sta)(lo hi size:Int)(t:Ty):Int:=if BL s lo hi size=ZB/\tset t=ZB then 0 else 2
def nL{s:Sta}(h:BL s lo hi size=ZB):AV s=ZB/\0<=lo/\lo<=hi/\hi+size<=64/\(size=1\/size=2\/size=4\/size=8):=by
 unfold BL at h;simp only[ne,eu,cb,ax]at h;obtain⟨h1,h2,h3,h4,h5⟩:=h;have e:Ac .sub .i64 64 size=64-size:=by show IntKind.i64.wrap (64-size)=_;rw[aK];omega
 rw[e]at h4;exact⟨h5,h2,h3,by omega,by omega⟩
def NX{i:Int}(h0:0<=i)(h1:i<=64):Ac .quo .i64 i 8=i / 8:=by show IntKind.i64.wrap (i.tdiv 8)=_;rw[Int.tdiv_eq_ediv_of_nonneg h0,aK];omega
def rP{s:Sta}(h:BL s lo hi size=ZB):Ac .quo .i64 (Ac .sub .i64 (Ac .add .i64 hi size) 1) 8=(hi+size-1) / 8/\Ac .add .i64 hi size=hi+size:=by
 obtain⟨-,h1,h2,h3,h4⟩:=nL h;have e1:Ac .add .i64 hi size=hi+size:=by show IntKind.i64.wrap (hi+size)=_;rw[aK];omega
 have e2:Ac .sub .i64 (hi+size) 1=hi+size-1:=by show IntKind.i64.wrap (hi+size-1)=_;rw[aK];omega
 rw[e1,e2];exact⟨NX Fn Fn,rfl⟩
def aa9{s:Sta}(h:BL s lo hi size=ZC):oR s lo hi size=tnil/\qa s lo hi size=2:=by unfold oR qa;rw[h];exact⟨rfl,rfl⟩
def nM{s:Sta}(h:BL s lo hi size=ZB)(h1:DR lo hi size=ZC):oR s lo hi size=ty 1 (C5 size) 0 0/\qa s lo hi size=0:=by unfold oR qa;rw[h,h1];exact⟨rfl,rfl⟩
def bL{s:Sta}(h:BL s lo hi size=ZB)(h1:DR lo hi size=ZB):oR s lo hi size=nI s (Ac .quo .i64 lo 8)/\qa s lo hi size=0:=by unfold oR qa;rw[h,h1];exact⟨rfl,rfl⟩
def yV{s:Sta}(h:BL s lo hi size=ZB):Ac .quo .i64 lo 8=lo / 8/\0<=lo / 8/\lo / 8<=7:=by obtain⟨-,h1,h2,h3,h4⟩:=nL h;exact⟨NX Fn Fn,by omega,by omega⟩
def ahz{s:Sta}(h:BL s lo hi size=ZB)(hn:n=Ac .quo .i64 lo 8)(h0:(n==0)=ZC)(h1:(n==1)=ZC)(h2:(n==2)=ZC)(h3:(n==3)=ZC)(h4:(n==4)=ZC)(h5:(n==5)=ZC)(h6:(n==6)=ZC)(h7:(n==7)=ZC):False:=by obtain⟨e,a,b⟩:=yV h;rw[e]at hn;simp only[jq]at h0 h1 h2 h3 h4 h5 h6 h7;omega
def ur{s:Sta}(h:decide (lo<0)=ZB):BL s lo hi size=ZC:=by have:=Ae h;unfold BL;rw[show decide (0<=lo)=ZC from fB Fn];simp only[Bool.false_and,Bool.and_false]
def uu{s:Sta}(h:decide (hi<lo)=ZB):BL s lo hi size=ZC:=by have:=Ae h;unfold BL;rw[show decide (lo<=hi)=ZC from fB Fn];simp only[Bool.false_and,Bool.and_false]
def pf{s:Sta}(h:decide (Ac .sub .i64 64 size<hi)=ZB):BL s lo hi size=ZC:=by have:=Ae h;unfold BL;rw[show decide (hi<=Ac .sub .i64 64 size)=ZC from fB Fn];simp only[Bool.false_and,Bool.and_false]
def af8{s:Sta}(h1:(size==1)=ZC)(h2:(size==2)=ZC)(h3:(size==4)=ZC)(h4:(size==8)=ZC):BL s lo hi size=ZC:=by unfold BL;rw[h1,h2,h3,h4];rfl
def ut{s:Sta}(hz:(size==1)=ZB\/(size==2)=ZB\/(size==4)=ZB\/(size==8)=ZB)(h1:decide (lo<0)=ZC)(h2:decide (hi<lo)=ZC):BL s lo hi size=(!decide (Ac .sub .i64 64 size<hi)&&AV s):=by have:=Af h1;have:=Af h2;unfold BL;rw[show(size==1||(size==2||(size==4||size==8)))=ZB from by rcases hz with h|h|h|h<;>simp[h],show decide (0<=lo)=ZB from cP Fn,show decide (lo<=hi)=ZB from cP Fn,show decide (hi<=Ac .sub .i64 64 size) = !decide (Ac .sub .i64 64 size<hi)from by rw[ar];simp];rfl
def apX(h1:(size==8)=ZC):DR lo hi size=ZC:=by unfold DR;rw[h1];rfl
def apW(h2:(lo==hi)=ZC):DR lo hi size=ZC:=by unfold DR;rw[h2,Bool.false_and,Bool.and_false]
def si{s:Sta}{p q:Int->Bool}{t:Ty}(h:∀k:Int,0<=k->k<=7->p k=q k):BA s p t=BA s q t:=by unfold BA;rw[h 0 Fn Fn,h 1 Fn Fn,h 2 Fn Fn,h 3 Fn Fn,h 4 Fn Fn,h 5 Fn Fn,h 6 Fn Fn,h 7 Fn Fn]
def afM{s:Sta}{p:Int->Bool}{t:Ty}(h:∀k:Int,0<=k->k<=7->p k=ZC):BA s p t=s:=by rw[si (q:=fun _=>ZC) h];rfl
def asV(s:Sta):List Dt:=[.z s.s0.k,.z s.s0.ul,.z s.s0.uh,.z s.s0.sl,.z s.s0.sh,.z s.s0.v,.z s.s0.m,.z s.s0.lo,.z s.s0.hi,.z s.s1.k,.z s.s1.ul,.z s.s1.uh,.z s.s1.sl,.z s.s1.sh,.z s.s1.v,.z s.s1.m,.z s.s1.lo,.z s.s1.hi,.z s.s2.k,.z s.s2.ul,.z s.s2.uh,.z s.s2.sl,.z s.s2.sh,.z s.s2.v,.z s.s2.m,.z s.s2.lo,.z s.s2.hi,.z s.s3.k,.z s.s3.ul,.z s.s3.uh,.z s.s3.sl,.z s.s3.sh,.z s.s3.v,.z s.s3.m,.z s.s3.lo,.z s.s3.hi,.z s.s4.k,.z s.s4.ul,.z s.s4.uh,.z s.s4.sl,.z s.s4.sh,.z s.s4.v,.z s.s4.m,.z s.s4.lo,.z s.s4.hi,.z s.s5.k,.z s.s5.ul,.z s.s5.uh,.z s.s5.sl,.z s.s5.sh,.z s.s5.v,.z s.s5.m,.z s.s5.lo,.z s.s5.hi,.z s.s6.k,.z s.s6.ul,.z s.s6.uh,.z s.s6.sl,.z s.s6.sh,.z s.s6.v,.z s.s6.m,.z s.s6.lo,.z s.s6.hi,.z s.s7.k,.z s.s7.ul,.z s.s7.uh,.z s.s7.sl,.z s.s7.sh,.z s.s7.v,.z s.s7.m,.z s.s7.lo,.z s.s7.hi]
def CI(a b:Int)(k:Int):Bool:=decide (a<=k)&&decide (k<b)
def akJ{s:Sta}{p q:Int->Bool}{t:Ty}(h:∀k:Int,0<=k->k<=7->q k=(p k||(k==0))):BA s q t={BA s p t with s0:=t}:=by unfold BA;simp only[h 0 Fn Fn,show q 1=p 1 from by rw[h 1 Fn Fn];exact bo _,show q 2=p 2 from by rw[h 2 Fn Fn];exact bo _,show q 3=p 3 from by rw[h 3 Fn Fn];exact bo _,show q 4=p 4 from by rw[h 4 Fn Fn];exact bo _,show q 5=p 5 from by rw[h 5 Fn Fn];exact bo _,show q 6=p 6 from by rw[h 6 Fn Fn];exact bo _,show q 7=p 7 from by rw[h 7 Fn Fn];exact bo _];simp
def akI{s:Sta}{p q:Int->Bool}{t:Ty}(h:∀k:Int,0<=k->k<=7->q k=(p k||(k==1))):BA s q t={BA s p t with s1:=t}:=by unfold BA;simp only[h 1 Fn Fn,show q 0=p 0 from by rw[h 0 Fn Fn];exact bo _,show q 2=p 2 from by rw[h 2 Fn Fn];exact bo _,show q 3=p 3 from by rw[h 3 Fn Fn];exact bo _,show q 4=p 4 from by rw[h 4 Fn Fn];exact bo _,show q 5=p 5 from by rw[h 5 Fn Fn];exact bo _,show q 6=p 6 from by rw[h 6 Fn Fn];exact bo _,show q 7=p 7 from by rw[h 7 Fn Fn];exact bo _];simp
def akH{s:Sta}{p q:Int->Bool}{t:Ty}(h:∀k:Int,0<=k->k<=7->q k=(p k||(k==2))):BA s q t={BA s p t with s2:=t}:=by unfold BA;simp only[h 2 Fn Fn,show q 0=p 0 from by rw[h 0 Fn Fn];exact bo _,show q 1=p 1 from by rw[h 1 Fn Fn];exact bo _,show q 3=p 3 from by rw[h 3 Fn Fn];exact bo _,show q 4=p 4 from by rw[h 4 Fn Fn];exact bo _,show q 5=p 5 from by rw[h 5 Fn Fn];exact bo _,show q 6=p 6 from by rw[h 6 Fn Fn];exact bo _,show q 7=p 7 from by rw[h 7 Fn Fn];exact bo _];simp
def akG{s:Sta}{p q:Int->Bool}{t:Ty}(h:∀k:Int,0<=k->k<=7->q k=(p k||(k==3))):BA s q t={BA s p t with s3:=t}:=by unfold BA;simp only[h 3 Fn Fn,show q 0=p 0 from by rw[h 0 Fn Fn];exact bo _,show q 1=p 1 from by rw[h 1 Fn Fn];exact bo _,show q 2=p 2 from by rw[h 2 Fn Fn];exact bo _,show q 4=p 4 from by rw[h 4 Fn Fn];exact bo _,show q 5=p 5 from by rw[h 5 Fn Fn];exact bo _,show q 6=p 6 from by rw[h 6 Fn Fn];exact bo _,show q 7=p 7 from by rw[h 7 Fn Fn];exact bo _];simp
def akF{s:Sta}{p q:Int->Bool}{t:Ty}(h:∀k:Int,0<=k->k<=7->q k=(p k||(k==4))):BA s q t={BA s p t with s4:=t}:=by unfold BA;simp only[h 4 Fn Fn,show q 0=p 0 from by rw[h 0 Fn Fn];exact bo _,show q 1=p 1 from by rw[h 1 Fn Fn];exact bo _,show q 2=p 2 from by rw[h 2 Fn Fn];exact bo _,show q 3=p 3 from by rw[h 3 Fn Fn];exact bo _,show q 5=p 5 from by rw[h 5 Fn Fn];exact bo _,show q 6=p 6 from by rw[h 6 Fn Fn];exact bo _,show q 7=p 7 from by rw[h 7 Fn Fn];exact bo _];simp
def akE{s:Sta}{p q:Int->Bool}{t:Ty}(h:∀k:Int,0<=k->k<=7->q k=(p k||(k==5))):BA s q t={BA s p t with s5:=t}:=by unfold BA;simp only[h 5 Fn Fn,show q 0=p 0 from by rw[h 0 Fn Fn];exact bo _,show q 1=p 1 from by rw[h 1 Fn Fn];exact bo _,show q 2=p 2 from by rw[h 2 Fn Fn];exact bo _,show q 3=p 3 from by rw[h 3 Fn Fn];exact bo _,show q 4=p 4 from by rw[h 4 Fn Fn];exact bo _,show q 6=p 6 from by rw[h 6 Fn Fn];exact bo _,show q 7=p 7 from by rw[h 7 Fn Fn];exact bo _];simp
def akD{s:Sta}{p q:Int->Bool}{t:Ty}(h:∀k:Int,0<=k->k<=7->q k=(p k||(k==6))):BA s q t={BA s p t with s6:=t}:=by unfold BA;simp only[h 6 Fn Fn,show q 0=p 0 from by rw[h 0 Fn Fn];exact bo _,show q 1=p 1 from by rw[h 1 Fn Fn];exact bo _,show q 2=p 2 from by rw[h 2 Fn Fn];exact bo _,show q 3=p 3 from by rw[h 3 Fn Fn];exact bo _,show q 4=p 4 from by rw[h 4 Fn Fn];exact bo _,show q 5=p 5 from by rw[h 5 Fn Fn];exact bo _,show q 7=p 7 from by rw[h 7 Fn Fn];exact bo _];simp
def akC{s:Sta}{p q:Int->Bool}{t:Ty}(h:∀k:Int,0<=k->k<=7->q k=(p k||(k==7))):BA s q t={BA s p t with s7:=t}:=by unfold BA;simp only[h 7 Fn Fn,show q 0=p 0 from by rw[h 0 Fn Fn];exact bo _,show q 1=p 1 from by rw[h 1 Fn Fn];exact bo _,show q 2=p 2 from by rw[h 2 Fn Fn];exact bo _,show q 3=p 3 from by rw[h 3 Fn Fn];exact bo _,show q 4=p 4 from by rw[h 4 Fn Fn];exact bo _,show q 5=p 5 from by rw[h 5 Fn Fn];exact bo _,show q 6=p 6 from by rw[h 6 Fn Fn];exact bo _];simp
def iB{s:Sta}{t:Ty}(h:BL s lo hi size=ZC\/tset t=ZC):je s lo hi size t=Kz/\nJ s lo hi size t=2:=by
 have:¬(BL s lo hi size=ZB/\tset t=ZB):=by rcases h with h|h<;>simp[h]
 exact⟨by unfold je;rw[aa this],by unfold nJ;rw[aa this]⟩
def bi{s:Sta}{t:Ty}(h:BL s lo hi size=ZB)(ht:tset t=ZB)(h1:DR lo hi size=ZB):je s lo hi size t=BA s (fun k=>k==Ac .quo .i64 lo 8) t/\nJ s lo hi size t=0:=by exact⟨by unfold je;rw[ae ⟨h,ht⟩,ae h1],by unfold nJ;rw[ae ⟨h,ht⟩]⟩
def ly{s:Sta}{t:Ty}(h:BL s lo hi size=ZB)(ht:tset t=ZB)(h1:DR lo hi size=ZC):je s lo hi size t=BA s (fun k=>decide (lo<8*k+8)&&decide (8*k<hi+size)) tscal/\nJ s lo hi size t=0:=by exact⟨by unfold je;rw[ae ⟨h,ht⟩,aa (by rw[h1];simp)],by unfold nJ;rw[ae ⟨h,ht⟩]⟩
def T5{t:Ty}(h:(t.k==0)=ZB):tset t=ZC:=by unfold tset;rw[h,Bool.not_true,Bool.and_false]
def amN{t:Ty}(h:BJ t=ZC):tset t=ZC:=by unfold tset;rw[h,Bool.false_and]
def eg{t:Ty}(h:(t.k==0)=ZC)(h2:BJ t=ZB):tset t=ZB:=by unfold tset;rw[h,h2];rfl
def arX{s:Sta}(h:BL s lo hi size=ZB)(h1:n<=(hi+size-1) / 8+1)(h2:(hi+size-1) / 8<n):BA s (CI (lo / 8) n) tscal=BA s (fun k=>decide (lo<8*k+8)&&decide (8*k<hi+size)) tscal:=by obtain⟨-,g1,g2,g3,g4⟩:=nL h;refine si fun k k0 k1=> ?_;unfold CI;rw[ar];simp only[ne,ax];omega
def gZ{k:Int}(hn:a<=n):CI a (n+1) k=(CI a n k||(k==n)):=by unfold CI;rw[ar];simp only[ne,eu,ax,cb];omega
open Go.ChangeShapes Go.WideShapes
def GL(ks:List CE):Nat->List CE
 |0=>[]
 |n+1=>ks++GL ks n
def abS(ks:List CE):∀n,(GL ks n).length=n*ks.length
 |0=>by simp[GL]
 |n+1=>by simp only[GL,cQ,abS ks n,Nat.succ_mul];omega
def Rw.array{t e:TypeId}{n:Nat}(r:Rw P e ks)(ht:P.underlying t=ZA (.array n e))(hc:P.cellsOf t=(GL ks n).length):Rw P t (GL ks n) where
 cells:=hc
 opn:=fun {H} {enc} {W} {sp} {hd} {fuel} {cs} {d} h=>by
  obtain⟨xs,m,_,_,hl,AE,hf⟩:=DataW.trod_array ht h;rw[hc,abS]at hl;have key:∀(k i:Nat),i+k=n->∃q,cs.drop (i*ks.length)=Ax (GL ks k) q/\aq (GL ks k) q=ZB:=by
   intro k
   induction k with
   |zero=>intro i hi;exact⟨[],by rw[List.drop_eq_nil_of_le (by rw[hl];exact Nat.mul_le_mul_right _ Fn)];rfl,rfl⟩
   |succ k ih=>intro i hi;have h1:=hf i Fn;rw[r.cells,Az Fn]at h1;obtain⟨a,ha,CN⟩:=r.opn h1;obtain⟨b,hb,D8⟩:=ih (i+1) Fn;refine⟨a++b,?_,qw CN D8⟩;show _=Ax (ks++GL ks k) _;rw[uF CN,<-ha,<-hb,Nat.succ_mul,<-List.drop_drop,List.take_append_drop]
  obtain⟨q,h1,h2⟩:=key n 0 Fn;rw[Nat.zero_mul,List.drop_zero]at h1;exact⟨q,h1,h2⟩
def adE{k:CE}{q:List Int}(h:aq (k::ks) q=ZB):∃x q',q=x::q'/\CV k x=ZB/\aq ks q'=ZB:=by
 cases q with
 |nil=>cases h
 |cons x q'=>simp only[aq,ne]at h;exact⟨x,q',rfl,h.1,h.2⟩
def ahh{q:List Int}(h:aq [] q=ZB):q=[]:=by
 cases q with
 |nil=>rfl
 |cons=>cases h
def Kl(P:Program)(d t:Nat)(z:List C):Prop:=∀vs,aD vs z->P.keyLits d t vs=ZA (cD vs)
def Fv(z:List C):Nat->List C
 |0=>[]
 |n+1=>z++Fv z n
def eR:∀{z:List C} {vs:List Value},aD vs z->vs.length=z.length
 |[],vs,h=>by rw[bz h];rfl
 |.int k e::r,vs,h=>by obtain⟨x,l,rfl,_,h2⟩:=ah h;simp[eR h2]
 |.bool e::r,vs,h=>by obtain⟨x,l,rfl,h2⟩:=dR h;simp[eR h2]
 |.yld _::_,vs,h|.wn _ _ _ _ _::_,vs,h|.aw _ _ _ _ _ _ _::_,vs,h|.str _::_,vs,h|.pe _ _ _ _ _ _::_,vs,h|.nmp::_,vs,h|.mp _::_,vs,h|.itp _ _::_,vs,h|.ptr _ _::_,vs,h|.fp _ _::_,vs,h|.fn _::_,vs,h|.np::_,vs,h|.undef::_,vs,h|.sl _::_,vs,h|.ep _ _ _ _::_,vs,h|.nsl::_,vs,h|.nf::_,vs,h|.clo _ _ _::_,vs,h=>by
   cases vs with
   |nil=>exact h.elim
   |cons v l=>cases v<;>exact h.elim
def kA:∀{z z':List C} {vs:List Value},aD vs (z++z')->∃v1 v2,vs=v1++v2/\aD v1 z/\aD v2 z'/\cD vs=cD v1++cD v2
 |[],z',vs,h=>⟨[],vs,rfl,trivial,h,rfl⟩
 |.int k e::r,z',vs,h=>by obtain⟨x,l,rfl,hx,h2⟩:=ah (r:=r++z') h;obtain⟨v1,v2,rfl,h3,h4,h5⟩:=kA h2;exact⟨.int k x::v1,v2,rfl,⟨rfl,hx,h3⟩,h4,by simp[cD,h5]⟩
 |.bool e::r,z',vs,h=>by obtain⟨x,l,rfl,h2⟩:=dR (r:=r++z') h;obtain⟨v1,v2,rfl,h3,h4,h5⟩:=kA h2;exact⟨.bool x::v1,v2,rfl,h3,h4,by simp[cD,h5]⟩
 |.yld _::_,_,vs,h|.wn _ _ _ _ _::_,_,vs,h|.aw _ _ _ _ _ _ _::_,_,vs,h|.str _::_,_,vs,h|.pe _ _ _ _ _ _::_,_,vs,h|.nmp::_,_,vs,h|.mp _::_,_,vs,h|.itp _ _::_,_,vs,h|.ptr _ _::_,_,vs,h|.fp _ _::_,_,vs,h|.fn _::_,_,vs,h|.np::_,_,vs,h|.undef::_,_,vs,h|.sl _::_,_,vs,h|.ep _ _ _ _::_,_,vs,h|.nsl::_,_,vs,h|.nf::_,_,vs,h|.clo _ _ _::_,_,vs,h=>by
   cases vs with
   |nil=>exact h.elim
   |cons v l=>cases v<;>exact h.elim
def Kl.int{d:Nat}{k:IntKind}(e:E)(ht:P.underlying t=ZA (.int k)):Kl P (d+1) t [.int k e]:=fun vs hv=>by obtain⟨x,l,rfl,hx,h2⟩:=ah hv;obtain rfl:=bz h2;have hw:(Lit.int k x).wf=ZB:=hx;simp[Program.keyLits,ht,cD,hw]
def Kl.array{d e n:Nat}(h:Kl P d e z)(ht:P.underlying t=ZA (.array n e))(he:P.cellsOf e=z.length)(hc:P.cellsOf t=n*z.length):Kl P (d+1) t (Fv z n):=fun vs hv=>by
 have key:∀(k i:Nat) (cs us:List Value),cs.drop (i*z.length)=us->aD us (Fv z k)->∃ls,((List.range' i k).mapM fun i=>P.keyLits d e ((cs.drop (i*P.cellsOf e)).take (P.cellsOf e)))=ZA ls/\ls.flatten=cD us:=by
  intro k
  induction k with
  |zero=>intro i cs us _ hu;exact⟨[],rfl,by rw[bz hu];rfl⟩
  |succ k ih=>intro i cs us hd hu;obtain⟨v1,v2,rfl,h1,h2,h3⟩:=kA (z:=z) (z':=Fv z k) hu;have hl:=eR h1;obtain⟨ls,g1,g2⟩:=ih (i+1) cs v2 (by rw[Nat.succ_mul,<-List.drop_drop,hd,List.drop_left' hl]) h2;refine⟨cD v1::ls,?_,by rw[List.flatten_cons,g2,h3]⟩;rw[List.range'_succ,List.mapM_cons,he,hd,List.take_left' hl,h v1 h1];rw[he]at g1;simp only[Option.pure_def,Option.bind_eq_bind,Option.bind_some,g1]
 obtain⟨ls,g1,g2⟩:=key n 0 vs vs (by simp) hv;have hl:vs.length=P.cellsOf t:=by
  have hr:∀m,(Fv z m).length=m*z.length:=fun m=>by
   induction m with
   |zero=>simp[Fv]
   |succ m ih=>simp only[Fv,cQ,ih,Nat.succ_mul];omega
  rw[hc,eR hv,hr]
 simp only[Program.keyLits,ht,hl,aW];rw[List.range_eq_range',g1];simp[g2]
def KlSeq(P:Program)(d off:Nat)(fs:List Field)(z:List C):Prop:=∀(cs us:List Value),cs.drop off=us->aD us z->∃ls,(fs.mapM fun f=>P.keyLits d f.type ((cs.drop f.offset).take (P.cellsOf f.type)))=ZA ls/\ls.flatten=cD us
def KlSeq.nil(P:Program)(d off:Nat):KlSeq P d off [] []:=fun cs us _ hu=>⟨[],rfl,by rw[bz hu];rfl⟩
def KlSeq.cons{d off:Nat}{f:Field}{fs:List Field}{z':List C}(h:Kl P d f.type z)(ho:f.offset=off)(hc:P.cellsOf f.type=z.length)(h':KlSeq P d (off+z.length) fs z'):KlSeq P d off (f::fs) (z++z'):=fun cs us hd hu=>by obtain⟨v1,v2,rfl,h1,h2,h3⟩:=kA hu;have hl:=eR h1;obtain⟨ls,g1,g2⟩:=h' cs v2 (by rw[<-List.drop_drop,hd,List.drop_left' hl]) h2;refine⟨cD v1::ls,?_,by rw[List.flatten_cons,g2,h3]⟩;rw[List.mapM_cons,ho,hc,hd,List.take_left' hl,h v1 h1];simp only[Option.pure_def,Option.bind_eq_bind,Option.bind_some,g1]
def Kl.struct{d:Nat}{fs:Array Field}(h:KlSeq P d 0 fs.toList z)(ht:P.underlying t=ZA (.struct fs))(hc:P.cellsOf t=z.length)(hn:fs.all (·.name != "_")=ZB):Kl P (d+1) t z:=fun vs hv=>by
 obtain⟨ls,g1,g2⟩:=h vs vs rfl hv;have hl:vs.length=P.cellsOf t:=by rw[hc,eR hv]
 simp only[Program.keyLits,ht,hl,hn,and_self,aW,g1];simp[g2]
def aiX{fs:Array Field}(ht:P.underlying t=ZA (.struct fs))(hc:P.cellsOf t=z.length)(vs:List Value)(hv:aD vs z):(Value.agg vs.toArray).formed P t=ZB:=by simp[Value.formed,ht,hc,eR hv]
def Bs(h:(a==b)=ZB):a=b:=by simpa using h
def BM(h:(a==b)=ZC):a≠b:=by simpa using h
structure Ins where
 k:Int
 op:Int
 w:Int
 sz:Int
 br:Bool
 d:Int
 s:Int
 off:Int
 imm:Int
structure Prog where
 ctx:Int
 l:LL
def bc(n:Int):Bool:=n==1||(n==2||(n==4||n==8))
def BF(x:Ins):Ins:=if x.br=ZB then {x with s:=0,br:=ZC}else {x with imm:=0,br:=ZC}
def cE(x:Ins):Ins×Bool:=
 if x.k=0 then({BF x with op:=0,w:=0,d:=0},(decide (0<=x.op)&&decide (x.op<=12))&&((x.w==32||x.w==64)&&(decide (x.d<10)&&(!(x.op==8)||(!x.br&&x.imm==0)))))
 else if x.k=1 then({x with sz:=0,d:=0,s:=0,off:=0},bc x.sz&&decide (x.d<10))
 else if x.k=2 then({x with sz:=0,d:=0,s:=0,off:=0},bc x.sz)
 else if x.k=3 then({BF x with op:=0,d:=0,off:=0},decide (0<=x.op)&&decide (x.op<=10))
 else if x.k=4 then({x with off:=0},ZB)
 else if x.k=5 then({x with imm:=0},decide (0<=x.imm)&&decide (x.imm<=15))
 else if x.k=6 then(x,ZB)
 else(x,ZC)
def gv(x y:Ins):Bool:=y.k==x.k&&(y.op==0&&(y.w==0&&(y.sz==0&&(!y.br&&(y.d==0&&(y.s==0&&(y.off==0&&y.imm==0)))))))
def fJ(x:Ins):Bool:=(decide (0<=x.d)&&decide (x.d<=10))&&((decide (0<=x.s)&&decide (x.s<=10))&&((decide (-32768<=x.off)&&decide (x.off<=32767))&&(decide (-2147483648<=x.imm)&&decide (x.imm<=2147483647))))
def AL(x:Ins):Bool:=fJ x&&((cE x).2&&gv x (cE x).1)
def AD(i:Int)(x:Ins):Int×Bool:=if(x.k=3\/x.k=4)/\((decide (-1099511627776<=i)&&decide (i<=1099511627776))&&(decide (-1099511627776<=x.off)&&decide (x.off<=1099511627776)))=ZB then(Ac .add .i64 (Ac .add .i64 i 1) x.off,ZB)else(0,ZC)
def iD(n:Int):Int:=if(decide (0<=n)&&decide (n<=15))=ZB then Ac .rem .i64 n 6 else 0
def AC(n:Int):Int:=Ac .shl .i64 1 n
def C7(x:Ins):Int:=
 if AL x=ZB then
  if x.k=0 then(if x.op=11 then(if x.br=ZB then AC x.s else 0)else Ac .or .i64 (AC x.d) (if x.br=ZB then AC x.s else 0))
  else if x.k=1 then AC x.s
  else if x.k=2 then Ac .or .i64 (AC x.d) (AC x.s)
  else if x.k=3 then Ac .or .i64 (AC x.d) (if x.br=ZB then AC x.s else 0)
  else if x.k=5 then Ac .sub .i64 (Ac .shl .i64 1 (Ac .add .i64 (iD x.imm) 1)) 2
  else if x.k=6 then 1 else 0
 else 0
def JC(x:Ins):Int:=if AL x=ZB then(if x.k=0\/x.k=1 then AC x.d else if x.k=5 then 63 else 0)else 0
def aZ{x:Ins}(h:AL x=ZB):0<=x.d/\x.d<=10/\0<=x.s/\x.s<=10 /\ -32768<=x.off/\x.off<=32767/\0<=x.k/\x.k<=6:=by
 unfold AL fJ at h;simp only[ne,ax]at h;obtain⟨⟨⟨a,b⟩,⟨c,d⟩,⟨e,f⟩,_⟩,h2,_⟩:=h;have:0<=x.k/\x.k<=6:=by
  unfold cE at h2;split at h2;· omega
  split at h2;· omega
  split at h2;· omega
  split at h2;· omega
  split at h2;· omega
  split at h2;· omega
  split at h2;· omega
  cases h2
 omega
def bH(n:Int):0<=iD n/\iD n<=5:=by
 unfold iD;split
 next h=>simp only[ne,ax]at h;show 0<=n.tmod 6/\n.tmod 6<=5;rw[Int.tmod_eq_emod_of_nonneg h.1];omega
 .exact Fn
def R7{i:Int}{x:Ins}(hk:x.k=3\/x.k=4)(h1:(decide (-1099511627776<=i)&&decide (i<=1099511627776))=ZB)(h2:(decide (-1099511627776<=x.off)&&decide (x.off<=1099511627776))=ZB):AD i x=(Ac .add .i64 (Ac .add .i64 i 1) x.off,ZB):=by unfold AD;rw[ae ⟨hk,by rw[h1,h2];rfl⟩]
def anT{i:Int}{x:Ins}(h1:(decide (-1099511627776<=i)&&decide (i<=1099511627776))=ZC):AD i x=(0,ZC):=by unfold AD;rw[aa (fun h=>by rw[h1]at h;exact ak h.2 (by simp))]
def anS{i:Int}{x:Ins}(h2:(decide (-1099511627776<=x.off)&&decide (x.off<=1099511627776))=ZC):AD i x=(0,ZC):=by unfold AD;rw[aa (fun h=>by rw[h2]at h;exact ak h.2 (by simp))]
def aun{i:Int}{x:Ins}(h3:(x.k==3)=ZC)(h4:(x.k==4)=ZC):AD i x=(0,ZC):=by unfold AD;rw[aa (fun h=>by rcases h.1 with h|h<;>simp[h]at h3 h4)]
def arE(h:(decide (0<=n)&&decide (n<=15))=ZB):iD n=Ac .rem .i64 n 6:=ae h
def arF(h:(decide (0<=n)&&decide (n<=15))=ZC):iD n=0:=aa XX
def ab(l:LL)(i:Int):Ins:=⟨gt l i 0,gt l i 1,gt l i 2,gt l i 3,gt l i 4==1,gt l i 5,gt l i 6,gt l i 7,gt l i 8⟩
def ai(l:LL)(i:Int):(⟨gt l i 0,gt l i 1,gt l i 2,gt l i 3,gt l i 4==1,gt l i 5,gt l i 6,gt l i 7,gt l i 8⟩:Ins)=ab l i:=rfl
def Prog.last(p:Prog):Int:=Ac .sub .i64 (p.l.length:Int) 1
def gJ(p:Prog)(n:Int):Option Int:=
 if AL (ab p.l n)=ZC then ZA 31
 else if(AD n (ab p.l n)).2=ZB/\(decide (0<=(AD n (ab p.l n)).1)&&decide ((AD n (ab p.l n)).1<=p.last))=ZC then ZA 32 else ZD
def Dm(p:Prog):Nat->Nat->Option (Int×Int)
 |0,_=>ZD
 |m+1,n=>match gJ p n with
   |some e=>ZA (n,e)
   |none=>Dm p m (n+1)
def aH(p:Prog):Int×Int:=
 if(decide (0<=p.ctx)&&decide (p.ctx<=256))=ZC then(0,2)
 else if(decide (0<=p.last)&&decide (p.last<=63))=ZC then(0,3)
 else match Dm p p.l.length 0 with
  |some r=>r
  |none=>if(ab p.l p.last).k=4\/(ab p.l p.last).k=6 then(0,0)else(p.last,33)
def adY{p:Prog}(c0:(decide (0<=p.ctx)&&decide (p.ctx<=256))=ZC):aH p=(0,2):=by unfold aH;rw[ae c0]
def adX{p:Prog}(c0:(decide (0<=p.ctx)&&decide (p.ctx<=256))=ZB)(c1:(decide (0<=p.last)&&decide (p.last<=63))=ZC):aH p=(0,3):=by unfold aH;rw[aa (by rw[c0];simp),ae c1]
def wF{p:Prog}{n:Nat}(h:n<p.l.length)(hb:gJ p n=ZD):Dm p (p.l.length-n) n=Dm p (p.l.length-(n+1)) (n+1):=by rw[show p.l.length-n=(p.l.length-(n+1))+1 by omega];simp only[Dm,hb]
def sO{p:Prog}{n:Nat}(c0:(decide (0<=p.ctx)&&decide (p.ctx<=256))=ZB)(c1:(decide (0<=p.last)&&decide (p.last<=63))=ZB)(hs:Dm p p.l.length 0=Dm p (p.l.length-n) n)(h:n<p.l.length)(hb:gJ p n=ZA e):aH p=((n:Int),e):=by unfold aH;rw[aa (by rw[c0];simp),aa (by rw[c1];simp),hs,show p.l.length-n=(p.l.length-(n+1))+1 by omega];simp only[Dm,hb]
def ol{p:Prog}{n:Nat}(c0:(decide (0<=p.ctx)&&decide (p.ctx<=256))=ZB)(c1:(decide (0<=p.last)&&decide (p.last<=63))=ZB)(hs:Dm p p.l.length 0=Dm p (p.l.length-n) n)(h:n=p.l.length):aH p=if(ab p.l p.last).k=4\/(ab p.l p.last).k=6 then(0,0)else(p.last,33):=by unfold aH;rw[aa (by rw[c0];simp),aa (by rw[c1];simp),hs,h,Nat.sub_self];rfl
def ym{p:Prog}(h:AL (ab p.l n)=ZC):gJ p n=ZA 31:=by unfold gJ;rw[ae h]
def ac4{p:Prog}(h:AL (ab p.l n)=ZB)(h2:(AD n (ab p.l n)).2=ZB)(h3:(decide (0<=(AD n (ab p.l n)).1)&&decide ((AD n (ab p.l n)).1<=p.last))=ZC):gJ p n=ZA 32:=by unfold gJ;rw[aa XX,ae ⟨h2,h3⟩]
def ac5{p:Prog}(h:AL (ab p.l n)=ZB)(h2:(AD n (ab p.l n)).2=ZC\/(decide (0<=(AD n (ab p.l n)).1)&&decide ((AD n (ab p.l n)).1<=p.last))=ZB):gJ p n=ZD:=by unfold gJ;rw[aa XX,aa (fun q=>by rcases h2 with h2|h2<;>rw[h2]at q<;>simp at q)]
def zQ{p:Prog}(c1:(decide (0<=p.last)&&decide (p.last<=63))=ZB)(hl:p.l.length<=maxLen):p.last=(p.l.length:Int)-1/\1<=p.l.length/\p.l.length<=64:=by
 simp only[ne,ax]at c1;have e:p.last=(p.l.length:Int)-1:=by unfold Prog.last;show IntKind.i64.wrap ((p.l.length:Int)-1)=_;rw[aK];simp[maxLen]at hl;omega
 omega
def DV{n:Nat}(h:n<m)(hm:m<=maxLen):Ac .add .i64 (n:Int) 1=((n+1:Nat):Int):=by show IntKind.i64.wrap ((n:Int)+1)=_;rw[aK];simp[maxLen]at hm;omega
def kI{v n:Nat}{z:Int}(h:Ag v ρ σ)(k:ρ.i n=z)(hn:n<v:=by decide):σ.i n=z:=(h n hn).1.symm.trans k
def kB{v n:Nat}{z:Bool}(h:Ag v ρ σ)(k:ρ.b n=z)(hn:n<v:=by decide):σ.b n=z:=(h n hn).2.1.symm.trans k
def kL{v n:Nat}{z:LL}(h:Ag v ρ σ)(k:ρ.l n=z)(hn:n<v:=by decide):σ.l n=z:=(h n hn).2.2.symm.trans k
def aB(l:LL)(i:Int):ab [[gt l i 0,gt l i 1,gt l i 2,gt l i 3,Ay (gt l i 4==1),gt l i 5,gt l i 6,gt l i 7,gt l i 8]] 0=ab l i:=by show(⟨gt l i 0,gt l i 1,gt l i 2,gt l i 3,Ay (gt l i 4==1)==1,gt l i 5,gt l i 6,gt l i 7,gt l i 8⟩:Ins)=_;rw[b2i_one];rfl
def aup(h:Aj .i8 v=ZB):ZG .i64 v=v:=by simp[Aj,IntKind.min,IntKind.max,ZQ,YS]at h;rw[aK];omega
def Au(t:Ty):Bool:=(t.k==2)||(t.k==3)
def DH(s:Sc):Ty:=ty 1 s 0 0
def BK(n:Int):Bool:=decide (-1048576<=n)&&decide (n<=1048576)
def B3(s:Sc)(b:Bool):Int:=if b=ZB then IntKind.i64.wrap (0-s.sh)else s.sl
def B2(s:Sc)(b:Bool):Int:=if b=ZB then IntKind.i64.wrap (0-s.sl)else s.sh
def au(t:Ty)(s:Sc)(b:Bool):Ty:={t with lo:=ZG .i64 (t.lo+B3 s b),hi:=ZG .i64 (t.hi+B2 s b)}
def oA(t:Ty)(s:Sc)(b:Bool):Ty:=if(decide (-1048576<=s.sl)&&decide (s.sh<=1048576))=ZB/\(BK (au t s b).lo&&BK (au t s b).hi)=ZB then au t s b else tscal
def HN(x:Ins)(a b:Ty):Ty:=if x.op=11 then b else a
def HO(x:Ins)(b:Ty):Ty:=if x.op=8 then DH (B7 0)else b
def bf(op w:Int)(a b:Ty):Ty:=
 if(!Au a &&!Au b)=ZB then DH (G4 op w a.s b.s)
 else if w=64/\Au b=ZC/\(op=0\/op=1)then oA a b.s (op==1)
 else if w=64/\Au a=ZC/\op=0 then oA b a.s ZC
 else if w=64 then tscal
 else DH (C5 4)
def Do(x:Ins)(a b:Ty):Ty:=if x.op=11/\x.w=64 then b else bf x.op x.w (HN x a b) (HO x b)
def aG(ctx:Int)(t:Ty)(off size:Int):Bool:=Au t&&(bc size&&((BK off&&(BK t.lo&&BK t.hi))&&(decide (t.lo<=t.hi)&&(decide (0<=t.lo+off)&&decide (t.hi+off+size<=if t.k=2 then ctx else 64)))))
section
variable {x:Ins}{a b:Ty}{op w:Int}
def va_m(h:(x.op==11)=ZB)(h2:(x.w==64)=ZB):Do x a b=b:=ae ⟨Bs h,Bs h2⟩
def va_o(h:(x.op==11)=ZB)(h2:(x.w==64)=ZC):Do x a b=bf x.op x.w b b:=by unfold Do HN HO;rw[aa (fun e=>BM h2 e.2),ae (Bs h),aa (by have:=Bs h;omega)]
def va_n(h:(x.op==11)=ZC)(h2:(x.op==8)=ZB):Do x a b=bf x.op x.w a (DH (B7 0)):=by unfold Do HN HO;rw[aa (fun e=>BM h e.1),aa (BM h),ae (Bs h2)]
def va_e(h:(x.op==11)=ZC)(h2:(x.op==8)=ZC):Do x a b=bf x.op x.w a b:=by unfold Do HN HO;rw[aa (fun e=>BM h e.1),aa (BM h),aa (BM h2)]
end
def gE(cc:Int):Bool:=decide (0<=cc)&&decide (cc<10)
def im(cc:Int):Int:=if cc=0 then 1 else if cc=1 then 0 else if cc=2 then 5 else if cc=3 then 4 else if cc=4 then 3 else if cc=5 then 2 else if cc=6 then 9 else if cc=7 then 8 else if cc=8 then 7 else if cc=9 then 6 else 0
def Cf(n:Int):Int:=if n=1\/n=2\/n=4\/n=8 then 1 else if n=7 then 3 else 2
def WR(h:1<=n/\n<=8):n=1\/n=2\/n=3\/n=4\/n=5\/n=6\/n=7\/n=8:=by omega
open Go.Shelf
def avn:Ren:=⟨fun|29=>14|n=>n,fun|0=>0|3=>3|4=>4|5=>5|22=>43|25=>110|54=>99|n=>n,fun _=>0⟩
def avo:Lays7.n29 ZF avn:={
 mixed:=by kernel_rfl
 f29:=func14.trans (congrArg ZA (by kernel_rfl))
 t0:=underlying0
 a0:=Tryz.isAgg0
 z0:=Tryz.sizeOf0
 v0:=Tryz.zeroValue0
 i0:=by kernel_rfl
 t3:=underlying3
 a3:=Tryz.isAgg3
 z3:=Tryz.sizeOf3
 v3:=Tryz.zeroValue3
 i3:=by kernel_rfl
 t4:=underlying4
 a4:=Tryz.isAgg4
 z4:=Tryz.sizeOf4
 v4:=Tryz.zeroValue4
 i4:=by kernel_rfl
 t5:=underlying5
 a5:=Tryz.isAgg5
 z5:=Tryz.sizeOf5
 v5:=Tryz.zeroValue5
 i5:=by kernel_rfl
 t22:=underlying43
 a22:=Tryz.isAgg43
 z22:=Tryz.sizeOf43
 v22:=Tryz.zeroValue43
 i22:=by kernel_rfl
 t25:=underlying110
 a25:=Tryz.isAgg110
 z25:=Tryz.sizeOf110
 v25:=Tryz.zeroValue110
 i25:=by kernel_rfl
 t54:=underlying99
 a54:=Tryz.isAgg99
 z54:=Tryz.sizeOf99
 g1:=by kernel_rfl
}
def JA(w:World):Prop:=TabAt 0 Lib.deBruijn64tab w
def sHx(w w':World)(hx:Ext w w')(h:JA w):JA w':=by
 intro j hj;have h1:=h j hj;have Ap:0<w.heap.size:=by
  rcases bn 0 w.heap.size with h2|h2
  .exact h2
  .have h3:w.heap[0]? =ZD:=Array.getElem?_eq_none h2;simp[World.cell?,h3]at h1
 rw[World.cell?_of_block (a:=⟨0,j,ZD⟩) (hx.block 0 Ap)];exact h1
def sHi:∃w,JA w:=by
 refine⟨(default:World).alloc (.cells (Lib.deBruijn64tab.map fun(n:Nat)=>Value.int .u8 (n:Int)).toArray 0),?_⟩;intro j hj;have h0:(default:World).heap.size=0:=rfl;have:=heap_alloc_new (default:World) (.cells (Lib.deBruijn64tab.map fun(n:Nat)=>Value.int .u8 (n:Int)).toArray 0);rw[h0]at this;rw[kH this];simp only[Lib.deBruijn64tab,YM,List.length_nil]at hj;have key:∀j,j<64->(Lib.deBruijn64tab.map fun(n:Nat)=>Value.int .u8 (n:Int))[j]? =ZA (.int .u8 (Lib.deBruijn64tab.getD j 0)):=by
  intro j hj;rw[iO,bh];have h1:j<Lib.deBruijn64tab.length:=by simpa[Lib.deBruijn64tab]using hj
  rw[Az h1];rfl
 exact key j Fn
def CL(x:Int):Int:=Lib.ctz 64 x.toNat
def agm(x:Int):List Dt:=[.z (CL x)]
def qq:List Dt->List Dt
 |[.z x]=>agm x
 |_=>[]
def zt(key:Nat):Sm:=⟨14,key,[.one (.int .u64)],[.one (.int .i64)],ZC⟩
def auR(x:Nat)(hx:x<2 ^ 64):Lib.ctz 64 x<=64:=by
 by_cases h:x=0
 .subst h;decide
 .exact Nat.le_of_lt (Lib.lowest_bit 64 x h hx).2
def ahb{sp:Spec}{key:Nat}(hF:sp.F key=qq)(hH:∀w,sp.hw w->JA w:=by exact fun _ h=>h):SmOk ZF sp (zt key):=by
 refine SmOk.pureW hF rfl rfl (fun xs vals w h hh=> ?_);obtain⟨_,_,_,rfl,⟨x,rfl,rfl,gx⟩,h⟩:=h;obtain⟨rfl,rfl⟩:=h;obtain⟨n,rfl⟩:∃n:Nat,x=n:=by simp[Aj,IntKind.min,IntKind.max,ZQ,YS]at gx;exact⟨x.toNat,by omega⟩
 have hn:n<2 ^ 64:=by simp[Aj,IntKind.min,IntKind.max,ZQ,YS]at gx;omega
 have GB:=auR n hn;refine⟨.int .i64 (Lib.ctz 64 n),.inr ⟨ez func14 (by kernel_rfl) (by kernel_rfl) _ w,?_⟩,?_,fun ρ v0 nid j he=> ?_⟩
 .refine(Any7.bits_TrailingZeros64 avo n hn w fun _=>hH w hh).mono ?_;rintro e w' ⟨rfl,rfl⟩;exact⟨rfl,.refl _⟩
 .refine⟨?_,trivial⟩;show Aj .i64 (Lib.ctz 64 (n:Int).toNat:Int)=ZB;rw[cy];simp[Aj,IntKind.min,IntKind.max,ZQ,YS];omega
 .have h1:ρ.i v0=(Lib.ctz 64 (n:Int).toNat:Int):=he.1;rw[cy]at h1;show ZA (Value.int .i64 (ρ.i v0))=_;rw[h1]
def gr(p:Prog)(i:Int):LL:=
 if(ab p.l i).k≠4/\(ab p.l i).k≠6 then
  if(AD i (ab p.l i)).2=ZB/\(AD i (ab p.l i)).1≠Ac .add .i64 i 1 then[[min (AD i (ab p.l i)).1 (Ac .add .i64 i 1)],[max (AD i (ab p.l i)).1 (Ac .add .i64 i 1)]]else[[Ac .add .i64 i 1]]
 else if(AD i (ab p.l i)).2=ZB then[[(AD i (ab p.l i)).1]]else[]
abbrev BV:=BitVec 64
def FL(x:Int):BV:=ZJ 64 x
def fw(X:BV):FL X.toInt=X:=BitVec.ofInt_toInt
def amE(X:BV):ZG .i64 (X.toNat:Int)=X.toInt:=by rw[aK,BitVec.toInt_eq_toNat_cond];have:=X.isLt;split<;>omega
def xo(x y:Int):Ac .or .i64 x y=(FL x ||| FL y).toInt:=amE _
def nY(x y:Int):Ac .andNot .i64 x y=(FL x &&& ~~~ FL y).toInt:=amE _
def dA(L:List BV):LL:=L.map fun x=>[x.toInt]
def mq(L:List BV):(dA L).length=L.length:=by simp[dA]
def kF{L:List BV}(h:i<L.length):gt (dA L) i 0=(L.getD i 0).toInt:=by simp[gt,dA,h]
def aa6{L:List BV}(h:i<L.length)(X:BV):st (dA L) i 0 X.toInt=dA (L.set i X):=by simp[st,dA,h,List.map_set]
def ala(n:Nat):YK n [(0:Int)]=dA (YK n 0):=by simp[dA]
def sub(a b:BV):Prop:=∀k,a.getLsbD k=ZB->b.getLsbD k=ZB
def asS{a b:BV}(h:sub a b):a.toNat<=b.toNat:=by
 have e:a ||| b=b:=BitVec.eq_of_getLsbD_eq fun k _=>by
  rw[BitVec.getLsbD_or];cases ha:a.getLsbD k with
  |false=>simp
  |true=>simp[h k ha]
 rw[<-e,BitVec.toNat_or];exact Nat.left_le_or
def leL:List BV->List BV->Prop
 |[],[]=>True
 |a::l,b::m=>sub a b/\leL l m
 |_,_=>False
def Jg(L:List BV):Nat:=(L.map fun x=>18446744073709551616-x.toNat).sum
def anG:∀{l m:List BV},leL l m->Jg m<=Jg l/\(m≠l->Jg m<Jg l)
 |[],[],_=>⟨YJ _,fun h=>(h rfl).elim⟩
 |a::l,b::m,h=>by
   have h1:=asS h.1;have h2:=anG h.2;have h3:=a.isLt;have h4:=b.isLt;simp only[Jg,YR,List.sum_cons]at *;refine⟨by omega,fun hn=> ?_⟩;by_cases hm:m=l
   .have:a.toNat≠b.toNat:=fun e=>hn (by rw[hm,BitVec.eq_of_toNat_eq e]);omega
   .have:=h2.2 hm;omega
def anF:∀{l m:List BV},l.length=m.length->(∀i,i<l.length->sub (l.getD i 0) (m.getD i 0))->leL l m
 |[],[],_,_=>trivial
 |[],_::_,h,_=>by simp at h
 |_::_,[],h,_=>by simp at h
 |a::l,b::m,h,hs=>⟨by simpa using hs 0 (by simp),anF Xw fun i hi=>by simpa using hs (i+1) XM⟩
def mu(L:LL):Nat:=Jg (L.map fun r=>FL (r.getD 0 0))
def ahS(L:List BV):mu (dA L)=Jg L:=by
 unfold mu dA;rw[List.map_map];congr 1
 conv=>rhs;rw[<-List.map_id L]
 exact List.map_congr_left fun x _=>by simp[fw]
def nx(p:Prog)(i:Nat):List Nat:=(gr p i).map fun r=>(r.getD 0 0).toNat
def wB(p:Prog)(i:Nat):BV:=FL (JC (ab p.l i))
def rB(p:Prog)(i:Nat):BV:=FL (C7 (ab p.l i))
def Jz(I:List BV)(l:List Nat)(a:BV):BV:=l.foldl (fun a m=>a ||| I.getD m 0) a
def fD(I:List BV)(k:Nat):∀(l:List Nat) (a:BV),(Jz I l a).getLsbD k=ZB↔a.getLsbD k=ZB\/∃m,m∈l/\(I.getD m 0).getLsbD k=ZB
 |[],a=>by simp[Jz]
 |m::l,a=>by
   have:=fD I k l (a ||| I.getD m 0);unfold Jz at *;rw[List.foldl_cons,this,BitVec.getLsbD_or];simp only[eu,ZN];constructor
   .rintro ((h|h)|⟨x,h1,h2⟩)
    .exact .inl h
    .exact .inr ⟨m,.inl rfl,h⟩
    .exact .inr ⟨x,.inr h1,h2⟩
   .rintro (h|⟨x,rfl|h1,h2⟩)
    .exact .inl (.inl h)
    .exact .inl (.inr h2)
    .exact .inr ⟨x,h1,h2⟩
def FI(p:Prog)(I O:List BV):List BV:=(List.range p.l.length).map fun i=>Jz I (nx p i) (O.getD i 0)
def O7(p:Prog)(O:List BV)(i:Nat):BV:=(O.getD i 0 &&& ~~~ wB p i) ||| rB p i
def Gb(p:Prog)(O:List BV):List BV:=(List.range p.l.length).map fun i=>O7 p O i
def nH(p:Prog)(I O:List BV):(FI p I O).length=p.l.length:=by simp[FI]
def fY(p:Prog)(O:List BV):(Gb p O).length=p.l.length:=by simp[Gb]
def vW{p:Prog}{I O:List BV}(h:i<p.l.length):(FI p I O).getD i 0=Jz I (nx p i) (O.getD i 0):=by simp[FI,h]
def vX{p:Prog}{O:List BV}(h:i<p.l.length):(Gb p O).getD i 0=O7 p O i:=by simp[Gb,h]
def Hr(p:Prog):Nat->List BV->List BV->List BV×List BV
 |0,I,O=>(I,O)
 |f+1,I,O=>if Gb p (FI p I O)=I then(I,FI p I O)else Hr p f (Gb p (FI p I O)) (FI p I O)
def oU(p:Prog):List BV×List BV:=Hr p 1180591620717411303425 (YK p.l.length 0) (YK p.l.length 0)
def D2(p:Prog):(LL×LL)×Int:=if(aH p).2=0 then((dA (oU p).1,dA (oU p).2),0)else(([],[]),(aH p).2)
structure Inv(p:Prog)(I O:List BV):Prop where
 li:I.length=p.l.length
 lo:O.length=p.l.length
 up:∀i,i<p.l.length->sub (I.getD i 0) (O7 p O i)
 on:∀i,i<p.l.length->sub (O.getD i 0) (Jz I (nx p i) 0)
 rd:∀i k,(I.getD i 0).getLsbD k=ZB->∃j,j<p.l.length/\(rB p j).getLsbD k=ZB
def vb{p:Prog}{O:List BV}(hk:k<64):(O7 p O i).getLsbD k=ZB↔(O.getD i 0).getLsbD k=ZB/\(wB p i).getLsbD k=ZC\/(rB p i).getLsbD k=ZB:=by unfold O7;rw[BitVec.getLsbD_or,BitVec.getLsbD_and,BitVec.getLsbD_not];simp[hk]
def UD{a:BV}(h:a.getLsbD k=ZB):k<64:=by
 rcases bn k 64 with h1|h1
 .exact h1
 .rw[BitVec.getLsbD_of_ge _ _ h1]at h;cases h
def Inv.zero(p:Prog):Inv p (YK p.l.length 0) (YK p.l.length 0) where
 li:=by simp
 lo:=by simp
 up:=fun i hi k h=>by simp[hi]at h
 on:=fun i hi k h=>by simp[hi]at h
 rd:=fun i k h=>by
  rcases bn i p.l.length with hi|hi
  .simp[hi]at h
  .simp[List.getD,List.getElem?_replicate,Nat.not_lt.2 hi]at h
def PO{p:Prog}{I O:List BV}(h:Inv p I O):∀i,sub (I.getD i 0) ((Gb p (FI p I O)).getD i 0):=fun i k hk=>by
 rcases bn i p.l.length with hi|hi
 .rw[vX hi,vb (UD hk)];rcases(vb (UD hk)).1 (h.up i hi k hk)with⟨h1,h2⟩|h1
  .exact .inl ⟨by rw[vW hi];exact(fD _ _ _ _).2 (.inl h1),h2⟩
  .exact .inr h1
 .simp[List.getD,bN (h.li▸hi)]at hk
def Inv.step{p:Prog}{I O:List BV}(h:Inv p I O):Inv p (Gb p (FI p I O)) (FI p I O) where
 li:=fY _ _
 lo:=nH _ _ _
 up:=fun i hi k hk=>by rw[vX hi]at hk;exact hk
 on:=fun i hi k hk=>by
  rw[vW hi]at hk;have:∃m,m∈nx p i/\(I.getD m 0).getLsbD k=ZB:=by
   rcases(fD _ _ _ _).1 hk with h1|h1
   .rcases(fD _ _ _ _).1 (h.on i hi k h1)with h2|h2
    .simp at h2
    .exact h2
   .exact h1
  obtain⟨m,h1,h2⟩:=this;exact(fD _ _ _ _).2 (.inr ⟨m,h1,PO h m k h2⟩)
 rd:=fun i k hk=>by
  rcases bn i p.l.length with hi|hi
  .rw[vX hi]at hk;rcases(vb (UD hk)).1 hk with⟨h1,_⟩|h1
   .rw[vW hi]at h1;rcases(fD _ _ _ _).1 h1 with h2|⟨m,_,h2⟩
    .rcases(fD _ _ _ _).1 (h.on i hi k h2)with h3|⟨m,_,h3⟩
     .simp at h3
     .exact h.rd m k h3
    .exact h.rd m k h2
   .exact⟨i,hi,h1⟩
  .simp[List.getD,bN ((fY p (FI p I O)).symm▸hi)]at hk
def Inv.mu{p:Prog}{I O:List BV}(h:Inv p I O)(hn:Gb p (FI p I O)≠I):Jg (Gb p (FI p I O))<Jg I:=
 (anG (anF (by rw[h.li,fY]) fun i _=>PO h i)).2 hn
def Up:∀n,Jg (YK n 0)=n*18446744073709551616
 |0=>rfl
 |n+1=>by have:=Up n;simp only[Jg,List.replicate_succ,YR,List.sum_cons]at *;rw[this];simp;omega
structure Fix(p:Prog)(I O:List BV):Prop where
 li:I.length=p.l.length
 lo:O.length=p.l.length
 ii:∀i,i<p.l.length->I.getD i 0=O7 p O i
 oo:∀i,i<p.l.length->O.getD i 0=Jz I (nx p i) 0
 rd:∀i k,(I.getD i 0).getLsbD k=ZB->∃j,j<p.l.length/\(rB p j).getLsbD k=ZB
def Inv.fix{p:Prog}{I O:List BV}(h:Inv p I O)(he:Gb p (FI p I O)=I):Fix p I (FI p I O) where
 li:=h.li
 lo:=nH _ _ _
 ii:=fun i hi=>by conv=>lhs;rw[<-he]
                  exact vX hi
 oo:=fun i hi=>by
  rw[vW hi];refine BitVec.eq_of_getLsbD_eq fun k hk=> ?_;rw[ar,fD,fD];constructor
  .rintro (h1|h1)
   .exact(fD _ _ _ _).1 (h.on i hi k h1)
   .exact .inr h1
  .rintro (h1|h1)
   .simp at h1
   .exact .inr h1
 rd:=h.rd
def acw{p:Prog}:∀(f:Nat) {I O:List BV},Inv p I O->Jg I<f->Fix p (Hr p f I O).1 (Hr p f I O).2
 |0,_,_,_,h=>by omega
 |f+1,I,O,h,hf=>by
   unfold Hr;split
   next he=>exact h.fix he
   next hn=>exact acw f h.step (by have:=h.mu hn;omega)
def ahZ{p:Prog}(h:p.l.length<=64):Fix p (oU p).1 (oU p).2:=acw _ (.zero p) (by rw[Up];omega)
def amw{p:Prog}(h:gJ p n=ZA e):e≠0:=by
 unfold gJ at h;split at h
 .cases h;decide
 .split at h
  .cases h;decide
  .exact ST
def wG{p:Prog}:∀(m n:Nat) {r:Int×Int},Dm p m n=ZA r->r.2≠0
 |0,_,_,h=>by cases h
 |m+1,n,r,h=>by
   unfold Dm at h;split at h
   next e he=>cases h;exact amw he
   .exact wG m (n+1) h
def wH{p:Prog}:∀(m n:Nat),Dm p m n=ZD->∀j,j<m->gJ p ((n+j:Nat):Int)=ZD
 |0,_,_,j,hj=>by omega
 |m+1,n,h,j,hj=>by
   unfold Dm at h;split at h
   .exact ST
   .rename_i he;cases j with
    |zero=>exact he
    |succ j=>rw[show n+(j+1)=(n+1)+j by omega];exact wH m (n+1) h j Fn
def bj{p:Prog}(hl:p.l.length<=maxLen)(h:(aH p).2=0):(p.last=(p.l.length:Int)-1/\1<=p.l.length/\p.l.length<=64)/\(∀n:Nat,n<p.l.length->gJ p n=ZD)/\((ab p.l p.last).k=4\/(ab p.l p.last).k=6):=by
 unfold aH at h;split at h
 .exact ST
 split at h
 .exact ST
 rename_i _ c1;have c1:(decide (0<=p.last)&&decide (p.last<=63))=ZB:=by simpa using c1
 split at h
 next r hr=>exact ak h (wG _ _ hr)
 rename_i hs;split at h
 next hk=>exact⟨zQ c1 hl,fun n hn=>by simpa using wH _ 0 hs n hn,hk⟩
 .exact ST
def aet{p:Prog}(h:gJ p n=ZD):AL (ab p.l n)=ZB/\((AD n (ab p.l n)).2=ZB->0<=(AD n (ab p.l n)).1/\(AD n (ab p.l n)).1<=p.last):=by
 unfold gJ at h;split at h
 .exact ST
 rename_i h1;split at h
 .exact ST
 rename_i h2;refine⟨by simpa using h1,fun h3=> ?_⟩;simp only[h3,true_and,Bool.not_eq_false,ne,ax]at h2;exact h2
def uY{p:Prog}(hl:p.l.length<=maxLen)(h:(aH p).2=0)(hi:i<p.l.length):gr p i=(nx p i).map (fun k:Nat=>[(k:Int)])/\(nx p i).length<=2/\∀k,k∈nx p i->k<p.l.length:=by
 obtain⟨⟨hla,h1,h64⟩,hb,hk⟩:=bj hl h;obtain⟨_,ht⟩:=aet (hb i hi);have ha:Ac .add .i64 (i:Int) 1=((i+1:Nat):Int):=DV hi hl;have hf:(ab p.l i).k≠4/\(ab p.l i).k≠6->i+1<p.l.length:=fun hn=>by
  rcases bn (i+1) p.l.length with h2|h2
  .exact h2
  .have:p.last=(i:Int):=by omega
   rw[this]at hk;exact(hk.elim hn.1 hn.2).elim
 unfold nx gr;rw[ha];generalize (AD (i:Int) (ab p.l i))=t at *;obtain⟨t,b⟩:=t;simp only at *;split
 .rename_i hn;have:=hf hn;split
  .rename_i Ds;have:=ht Ds.1;refine⟨?_,by simp,?_⟩
   .simp only[YR,List.map_nil,List.getD_cons_zero];rw[show(((min t ((i+1:Nat):Int)).toNat:Nat):Int)=min t ((i+1:Nat):Int) by omega,show(((max t ((i+1:Nat):Int)).toNat:Nat):Int)=max t ((i+1:Nat):Int) by omega]
   .intro k hk;simp only[YR,List.map_nil,List.getD_cons_zero,ZN,List.not_mem_nil,or_false]at hk;omega
  .refine⟨by simp,by simp,?_⟩;intro k hk;simp only[YR,List.map_nil,List.getD_cons_zero,ZN,List.not_mem_nil,or_false]at hk;omega
 .split
  .rename_i Ds;have:=ht Ds;refine⟨?_,by simp,?_⟩
   .simp only[YR,List.map_nil,List.getD_cons_zero];rw[show((t.toNat:Nat):Int)=t by omega]
   .intro k hk;simp only[YR,List.map_nil,List.getD_cons_zero,ZN,List.not_mem_nil,or_false]at hk;omega
  .exact⟨rfl,by simp,fun k hk=>by simp at hk⟩
def acj{p:Prog}(hl:p.l.length<=maxLen)(h:(aH p).2=0)(hi:i<p.l.length)(hj:j<(gr p i).length):∃k,(nx p i)[j]? =ZA k/\gt (gr p i) j 0=(k:Int)/\k<p.l.length:=by obtain⟨h1,h2,h3⟩:=uY hl h hi;rw[h1]at hj ⊢;simp only[List.length_map]at hj;exact⟨(nx p i)[j],Az hj,by simp[gt,hj],h3 _ (List.getElem_mem hj)⟩
structure Ways(p:Prog)(m j:Nat)(ws:LL):Prop where
 snd:∀r,r∈ws->∃i k:Nat,(i<m/\k∈nx p i\/i=m/\k∈(nx p m).take j)/\r=[(i:Int),(k:Int),1]
 cmp:∀i k:Nat,(i<m/\k∈nx p i\/i=m/\k∈(nx p m).take j)->[(i:Int),(k:Int),1]∈ws
 len:ws.length<=2*m+j
def Ways.nil(p:Prog):Ways p 0 0 []:=⟨fun r h=>by simp at h,fun i k h=>by simp at h,YJ _⟩
def Ways.out{p:Prog}(h:Ways p m j ws)(hj:j=(nx p m).length)(h2:(nx p m).length<=2):Ways p (m+1) 0 ws where
 snd:=fun r hr=>by
  obtain⟨i,k,h1,rfl⟩:=h.snd r hr;refine⟨i,k,.inl ?_,rfl⟩;rw[hj,List.take_length]at h1;rcases h1 with⟨h3,h4⟩|⟨rfl,h4⟩
  .exact⟨by omega,h4⟩
  .exact⟨by omega,h4⟩
 cmp:=fun i k GX=>h.cmp i k (by
  rw[hj,List.take_length];rcases GX with⟨h3,h4⟩|⟨_,h4⟩
  .rcases bn i m with h5|h5
   .exact .inl ⟨h5,h4⟩
   .obtain rfl:i=m:=by omega
    exact .inr ⟨rfl,h4⟩
  .simp at h4)
 len:=by have:=h.len;omega
def Ways.more{p:Prog}{Ml:LL}(h:Ways p m j ws)(hk:(nx p m)[j]? =ZA k)(hs:∀r,r∈Ml↔r∈ws\/r=[(m:Int),(k:Int),1])(hl:Ml.length<=ws.length+1):Ways p m (j+1) Ml:=by
 have ht:∀x,x∈(nx p m).take (j+1)↔x∈(nx p m).take j\/x=k:=fun x=>by rw[List.take_add_one,hk];simp
 refine⟨fun r hr=> ?_,fun i x hx=> ?_,by have:=h.len;omega⟩
 .rcases(hs r).1 hr with h1|h1
  .obtain⟨i,x,h2,rfl⟩:=h.snd r h1;refine⟨i,x,?_,rfl⟩;rcases h2 with h2|⟨h2,h3⟩
   .exact .inl h2
   .exact .inr ⟨h2,(ht x).2 (.inl h3)⟩
  .exact⟨m,k,.inr ⟨rfl,(ht k).2 (.inr rfl)⟩,h1⟩
 .rcases hx with h1|⟨rfl,h1⟩
  .exact(hs _).2 (.inl (h.cmp i x (.inl h1)))
  .rcases(ht x).1 h1 with h2|rfl
   .exact(hs _).2 (.inl (h.cmp i x (.inr ⟨rfl,h2⟩)))
   .exact(hs _).2 (.inr rfl)
def Ways.app{p:Prog}(h:Ways p m j ws)(hk:(nx p m)[j]? =ZA k):Ways p m (j+1) (ws++[[(m:Int),(k:Int),1]]):=h.more hk (fun r=>by simp) (by simp)
def aqX{key:List Int}(h:Cc L key<(L.length:Int)):∃(i:Nat) (hi:i<L.length),Cc L key=(i:Int)/\(L[i].take key.length==key)=ZB:=by
 have hi:L.findIdx (fun r=>r.take key.length==key)<L.length:=by unfold Cc at h;omega
 exact⟨_,hi,rfl,List.findIdx_getElem (w:=hi)⟩
def Ways.put{p:Prog}(h:Ways p m j ws)(hk:(nx p m)[j]? =ZA k)(hm:Cc ws [(m:Int),(k:Int)]<(ws.length:Int)):Ways p m (j+1) (ws.set (Cc ws [(m:Int),(k:Int)]).toNat [(m:Int),(k:Int),1]):=by
 obtain⟨i,hi,he,ht⟩:=aqX hm;have hr:ws[i]=[(m:Int),(k:Int),1]:=by obtain⟨a,b,_,h2⟩:=h.snd _ (List.getElem_mem hi);rw[h2]at ht ⊢;simp at ht;simp[ht]
 have:ws.set (Cc ws [(m:Int),(k:Int)]).toNat [(m:Int),(k:Int),1]=ws:=by rw[he,<-hr];simp
 rw[this];refine h.more hk (fun r=>⟨.inl,fun h1=>h1.elim id fun h2=> ?_⟩) (Nat.le_succ _);rw[h2,<-hr];exact List.getElem_mem hi
structure Seen(p:Prog)(I O:List BV)(ws L V:LL):Prop where
 ex:∃(X:List BV) (un:List Nat),L=dA X/\X.length=p.l.length/\un.length+V.length=ws.length/\(∀v:Nat,v<ws.length->[(v:Int)]∈V\/v∈un)/\
  ∀i,i<p.l.length->∀k,(X.getD i 0).getLsbD k=ZB↔(O.getD i 0).getLsbD k=ZB\/∃v m:Nat,[(v:Int)]∈V/\ws[v]? =ZA [(i:Int),(m:Int),1]/\(I.getD m 0).getLsbD k=ZB
def Seen.init(p:Prog)(I O:List BV)(ws:LL)(hO:O.length=p.l.length):Seen p I O ws (dA O) []:=⟨O,List.range ws.length,rfl,hO,by simp,fun v hv=>.inr (by simpa using hv),fun i _ k=>by simp⟩
def aqV{V:LL}(h:¬Cc V [v]<(V.length:Int)):[v] ∉ V:=fun hm=>h (by
 have:=List.findIdx_lt_length_of_exists (p:=fun r:List Int=>r.take 1==[v]) ⟨[v],hm,by simp⟩;unfold Cc;simpa using this)
def Seen.step{p:Prog}{I O:List BV}{V:LL}(h:Seen p I O ws L V){v a b:Nat}(hI:I.length=p.l.length)(hv:[(v:Int)] ∉ V)(hw:ws[v]? =ZA [(a:Int),(b:Int),1])(ha:a<p.l.length)(hb:b<p.l.length):
  Seen p I O ws (st L a 0 (Ac .or .i64 (gt L a 0) (gt (dA I) b 0))) (V++[[(v:Int)]]):=by
 obtain⟨X,un,rfl,hX,hl,hu,D8⟩:=h.ex;have Lg:v<ws.length:=(bX.1 hw).1;have DU:v∈un:=(hu v Lg).elim (fun h=>(hv h).elim) id;rw[kF (hX▸ha),kF (hI▸hb),xo,fw,fw,aa6 (hX▸ha)];refine⟨X.set a (X.getD a 0 ||| I.getD b 0),un.erase v,rfl,by simp[hX],?_,fun w hwl=> ?_,fun i hi k=> ?_⟩
 .have:=List.length_erase_of_mem DU;have:0<un.length:=List.length_pos_of_mem DU;simp;omega
 .rcases hu w hwl with h1|h1
  .exact .inl (by simp[h1])
  .by_cases Tn:w=v
   .exact .inl (by simp[Tn])
   .exact .inr ((List.mem_erase_of_ne Tn).2 h1)
 .have Nq:(X.set a (X.getD a 0 ||| I.getD b 0)).getD i 0=if a=i then X.getD a 0 ||| I.getD b 0 else X.getD i 0:=by
   simp only[bh,dY];split
   .simp[hX,ha]
   .rfl
  rw[Nq];by_cases hai:a=i
  .subst hai;rw[ae rfl,BitVec.getLsbD_or,eu,D8 a ha k];constructor
   .rintro ((h1|⟨w,m,h1,h2,h3⟩)|h1)
    .exact .inl h1
    .exact .inr ⟨w,m,by simp[h1],h2,h3⟩
    .exact .inr ⟨v,b,by simp,hw,h1⟩
   .rintro (h1|⟨w,m,h1,h2,h3⟩)
    .exact .inl (.inl h1)
    .rcases ZS.1 h1 with h4|h4
     .exact .inl (.inr ⟨w,m,h4,h2,h3⟩)
     .have:w=v:=by
       have:[(w:Int)]=[(v:Int)]:=by simpa using h4
       injection this with this;exact Int.ofNat_inj.1 this
      rw[this,hw]at h2;have:b=m:=by have h2:=Option.some.inj h2;simp only[AY]at h2;exact Int.ofNat_inj.1 h2.2.1
      exact .inr (this▸h3)
  .rw[aa hai,D8 i hi k];constructor
   .rintro (h1|⟨w,m,h1,h2,h3⟩)
    .exact .inl h1
    .exact .inr ⟨w,m,by simp[h1],h2,h3⟩
   .rintro (h1|⟨w,m,h1,h2,h3⟩)
    .exact .inl h1
    .rcases ZS.1 h1 with h4|h4
     .exact .inr ⟨w,m,h4,h2,h3⟩
     .have:w=v:=by
       have:[(w:Int)]=[(v:Int)]:=by simpa using h4
       injection this with this;exact Int.ofNat_inj.1 this
      rw[this,hw]at h2;have:a=i/\b=m:=by have h2:=Option.some.inj h2;simp only[AY]at h2;exact⟨Int.ofNat_inj.1 h2.1,Int.ofNat_inj.1 h2.2.1⟩
      exact(hai this.1).elim
def Seen.len{p:Prog}{I O:List BV}{V:LL}(h:Seen p I O ws L V):L.length=p.l.length:=by obtain⟨X,un,rfl,hX,_⟩:=h.ex;rw[mq,hX]
def Seen.done{p:Prog}{I O:List BV}{V:LL}(h:Seen p I O ws L V)(hw:Ways p p.l.length 0 ws)(he:¬V.length<ws.length):L=dA (FI p I O):=by
 obtain⟨X,un,rfl,hX,hl,hu,hb⟩:=h.ex;obtain rfl:un=[]:=List.eq_nil_of_length_eq_zero Fn;congr 1;refine List.ext_getElem (by rw[hX,nH]) fun i h1 h2=> ?_;have hi:i<p.l.length:=hX▸h1;have e1:X[i]=X.getD i 0:=by simp[h1]
 have e2:(FI p I O)[i]=(FI p I O).getD i 0:=by simp[h2]
 rw[e1,e2,vW hi];refine BitVec.eq_of_getLsbD_eq fun k hk=> ?_;rw[ar,hb i hi k,fD];constructor
 .rintro (h3|⟨v,m,h3,h4,h5⟩)
  .exact .inl h3
  .obtain⟨a,c,h6,h7⟩:=hw.snd _ (ew h4);simp only[AY,Int.natCast_inj,and_true]at h7;obtain⟨rfl,rfl⟩:=h7;rcases h6 with⟨_,h6⟩|⟨_,h6⟩
   .exact .inr ⟨m,h6,h5⟩
   .simp at h6
 .rintro (h3|⟨m,h3,h5⟩)
  .exact .inl h3
  .obtain⟨v,hv,h4⟩:=List.getElem_of_mem (hw.cmp i m (.inl ⟨hi,h3⟩));exact .inr ⟨v,m,(hu v hv).elim id (fun h=>by simp at h),by rw[Az hv,h4],h5⟩
structure Wrote(p:Prog)(I O:List BV)(m:Nat)(b:Bool)(L:LL):Prop where
 ll:L=dA ((Gb p O).take m++I.drop m)
 bb:b=ZB↔(Gb p O).take m≠I.take m
def Wrote.init(p:Prog)(I O:List BV):Wrote p I O 0 ZC (dA I):=⟨by simp,by simp⟩
def Wrote.len{p:Prog}{I O:List BV}{b:Bool}(h:Wrote p I O m b L)(hI:I.length=p.l.length)(hm:m<=p.l.length):L.length=p.l.length:=by rw[h.ll,mq];simp[fY,hI];omega
def Wrote.old{p:Prog}{I O:List BV}{b:Bool}(h:Wrote p I O m b L)(hI:I.length=p.l.length)(hm:m<p.l.length):gt L m 0=(I.getD m 0).toInt:=by rw[h.ll,kF (by simp[fY,hI];omega)];congr 1;simp[bh,List.getElem?_append,fY,Nat.min_eq_left (Nat.le_of_lt hm)]
def Wrote.step{p:Prog}{I O:List BV}{b:Bool}(h:Wrote p I O m b L)(hI:I.length=p.l.length)(hO:O.length=p.l.length)(hm:m<p.l.length):
  Wrote p I O (m+1) (b ||!((Ac .or .i64 (Ac .andNot .i64 (gt (dA O) m 0) (JC (ab p.l m))) (C7 (ab p.l m)))==gt L m 0)) (st L m 0 (Ac .or .i64 (Ac .andNot .i64 (gt (dA O) m 0) (JC (ab p.l m))) (C7 (ab p.l m)))):=by
 have hx:Ac .or .i64 (Ac .andNot .i64 (gt (dA O) m 0) (JC (ab p.l m))) (C7 (ab p.l m))=((Gb p O).getD m 0).toInt:=by rw[kF (hO▸hm),xo,nY,fw,fw,vX hm];rfl
 rw[hx,h.old hI hm];have h1:(Gb p O)[m]? =ZA ((Gb p O).getD m 0):=by simp[Az (show m<(Gb p O).length by rw[fY];exact hm)]
 have h2:I[m]? =ZA (I.getD m 0):=by simp[Az (show m<I.length by rw[hI];exact hm)]
 constructor
 .rw[h.ll,aa6 (by simp[fY,hI];omega)];congr 1;refine List.ext_getElem? fun i=> ?_;rw[dY];simp only[List.getElem?_append,cQ,YQ,ZV,fY,hI,List.getElem?_take,List.getElem?_drop,Nat.min_eq_left (Nat.le_of_lt hm),Nat.min_eq_left (show m+1<=p.l.length from hm)];by_cases h3:m=i
  .subst h3;rw[ae rfl,ae Fn,ae Fn,ae Fn,h1]
  .rw[aa h3];by_cases h4:i<m
   .rw[ae h4,ae h4,ae Fn,ae Fn]
   .rw[aa h4,aa Fn];congr 1;omega
 .rw[List.take_add_one,List.take_add_one,h1,h2];simp only[eu,h.bb,Option.toList_some,ZL,jq];constructor
  .rintro (h3|h3) he
   .exact h3 (List.append_inj_left' he rfl)
   .have:=List.append_inj_right' he rfl;simp only[AY,and_true]at this;exact h3 (by rw[this])
  .intro hn;by_cases h3:(Gb p O).take m=I.take m
   .right;intro h4;exact hn (by rw[h3,BitVec.eq_of_toInt_eq h4])
   .exact .inl h3
def Wrote.done{p:Prog}{I O:List BV}{b:Bool}(h:Wrote p I O m b L)(hI:I.length=p.l.length)(hm:m=p.l.length):L=dA (Gb p O)/\(b=ZB↔Gb p O≠I):=by have h1:=h.ll;have h2:=h.bb;rw[hm,List.take_of_length_le (by rw[fY];exact YJ _),List.take_of_length_le (by rw[hI];exact YJ _)]at h2;rw[hm,List.take_of_length_le (by rw[fY];exact YJ _),List.drop_of_length_le (by rw[hI];exact YJ _),YO]at h1;exact⟨h1,h2⟩
def Ins.eta(a:Ins):(⟨a.k,a.op,a.w,a.sz,a.br,a.d,a.s,a.off,a.imm⟩:Ins)=a:=rfl
def rd_Ins(k:Ins->List Dt->List Dt):List Dt->List Dt
 |.z z0::.z z1::.z z2::.z z3::.z z4::.z z5::.z z6::.z z7::.z z8::r=>k ⟨z0,z1,z2,z3,(z4==1),z5,z6,z7,z8⟩ r
 |_=>[]
def Ins.ok(a:Ins):Prop:=Aj .i8 a.k=ZB/\Aj .i8 a.op=ZB/\Aj .i8 a.w=ZB/\Aj .i8 a.sz=ZB/\Aj .i8 a.d=ZB/\Aj .i8 a.s=ZB/\Aj .i64 a.off=ZB/\Aj .i64 a.imm=ZB
def kIns:List CK:=[.int .i8,.int .i8,.int .i8,.int .i8,.bool,.int .i8,.int .i8,.int .i64,.int .i64]
def v_Ins(t:List VK):List VK:=.int .i8::.int .i8::.int .i8::.int .i8::.bool::.int .i8::.int .i8::.int .i64::.int .i64::t
def d_Ins(a:Ins)(t:List Dt):List Dt:=.z a.k::.z a.op::.z a.w::.z a.sz::.z (Ay a.br)::.z a.d::.z a.s::.z a.off::.z a.imm::t
def iY{l:List VK}{p:List Dt->Prop}(h:∀a:Ins,Ins.ok a->ba l fun r=>p (d_Ins a r)):ba (v_Ins l) p:=fun x0 Dr x1 DY x2 HT x3 Hc x4 x5 MR x6 MS x7 MT x8 PP=>h ⟨x0,x1,x2,x3,x4,x5,x6,x7,x8⟩ ⟨Dr,DY,HT,Hc,MR,MS,MT,PP⟩
def abW(k:Ins->List Dt->List Dt)(a:Ins)(t:List Dt):rd_Ins k (d_Ins a t)=k a t:=by simp only[rd_Ins,d_Ins,b2i_one]
def eD:=aI @v_Ins.eq_1 (aI @d_Ins.eq_1 (aI @rd_Ins.eq_1 (@kIns.eq_1)))
def Prog.eta(a:Prog):(⟨a.ctx,a.l⟩:Prog)=a:=rfl
def rd_Prog(k:Prog->List Dt->List Dt):List Dt->List Dt
 |.z z0::.l z1::r=>k ⟨z0,z1⟩ r
 |_=>[]
def Prog.ok(a:Prog):Prop:=Aj .i64 a.ctx=ZB/\RowsIn (kN 9 220090000) a.l
def kProg:List CK:=[.int .i64,.sl (kN 9 220090000) 41]
def v_Prog(t:List VK):List VK:=.int .i64::.list (kN 9 220090000)::t
def d_Prog(a:Prog)(t:List Dt):List Dt:=.z a.ctx::.l a.l::t
def fQ{l:List VK}{p:List Dt->Prop}(h:∀a:Prog,Prog.ok a->ba l fun r=>p (d_Prog a r)):ba (v_Prog l) p:=fun x0 Dr x1 DY=>h ⟨x0,x1⟩ ⟨Dr,DY⟩
def xh(k:Prog->List Dt->List Dt)(a:Prog)(t:List Dt):rd_Prog k (d_Prog a t)=k a t:=rfl
def df:=aI @v_Prog.eq_1 (aI @d_Prog.eq_1 (aI @rd_Prog.eq_1 (@kProg.eq_1)))
def lR:List C:=[.int .i8 (.p 0),.int .i8 (.p 0),.int .i8 (.p 0),.int .i8 (.p 0),.bool (.tt ZC),.int .i8 (.p 0),.int .i8 (.p 0),.int .i64 (.p 0),.int .i64 (.p 0)]
def ij:Tryz.prog.eqGuardType Tryz.prog.depth 41=ZC:=by kernel_rfl
def aan:Tryz.prog.cellsOf 41=9:=by kernel_rfl
def aap:Tryz.prog.cellsOf 39=1:=by kernel_rfl
def aek:Tryz.prog.cellsOf 4=1:=by kernel_rfl
def aeo:Tryz.prog.cellsOf 3=1:=by kernel_rfl
def atH(vs:List Value)(hv:aD vs lR):Tryz.prog.keyLits 6 41 vs=ZA (cD vs):=by obtain⟨x0,_,rfl,g0,hv⟩:=ah hv;obtain⟨x1,_,rfl,g1,hv⟩:=ah hv;obtain⟨x2,_,rfl,g2,hv⟩:=ah hv;obtain⟨x3,_,rfl,g3,hv⟩:=ah hv;obtain⟨x4,_,rfl,hv⟩:=dR hv;obtain⟨x5,_,rfl,g5,hv⟩:=ah hv;obtain⟨x6,_,rfl,g6,hv⟩:=ah hv;obtain⟨x7,_,rfl,g7,hv⟩:=ah hv;obtain⟨x8,_,rfl,g8,hv⟩:=ah hv;obtain rfl:=bz hv;simp[Program.keyLits,underlying41,underlying39,underlying4,underlying3,aan,aap,aek,aeo,xR,cD,g0,g1,g2,g3,g5,g6,g7,g8]
def auF(vs:List Value)(hv:aD vs lR):(Value.agg vs.toArray).formed ZF 41=ZB:=by obtain⟨x0,_,rfl,g0,hv⟩:=ah hv;obtain⟨x1,_,rfl,g1,hv⟩:=ah hv;obtain⟨x2,_,rfl,g2,hv⟩:=ah hv;obtain⟨x3,_,rfl,g3,hv⟩:=ah hv;obtain⟨x4,_,rfl,hv⟩:=dR hv;obtain⟨x5,_,rfl,g5,hv⟩:=ah hv;obtain⟨x6,_,rfl,g6,hv⟩:=ah hv;obtain⟨x7,_,rfl,g7,hv⟩:=ah hv;obtain⟨x8,_,rfl,g8,hv⟩:=ah hv;obtain rfl:=bz hv;kernel_rfl
def lb(vs us:List Value)(hv:aD vs lR)(hu:aD us lR)(w:World):(Op.equal 41 (.agg vs.toArray) (.agg us.toArray)).run ZF w=.ok (CB vs us) w:=fU (by kernel_rfl) auF 6 atH vs us hv hu w
def gV:=aI Ins.eta (Prog.eta)
def gk{q:Prop}(k:q2)(h:p->q=q2:=by intro e;(try simp only[e,gV,ai,-eq_self]);rfl):p->q:=fun e=>(h e).symm▸k
def afh:List (Nat×TI):=[(3,C1),
 (4,EM),
 (39,hZ),
 (41,rK)]
def fX:∀t i,(t,i)∈afh->TIok ZF t i:=bK (Ed (z:=lR) ⟨lb,ij⟩ Ch) Ch (by kernel_rfl)
def c_iwi:Cd:=⟨24,[.one (.int .i64),.one (.int .i64),.one (.int .i64)],[.one .bool],rdZ fun n=>rdZ fun a=>rdZ fun b _=>[.z (Ay ((decide (a<=n)&&decide (n<=b))))],T0⟩
def ang:Tr:=
(.br (.lt (.w 0) (.w 1))
 zlF
(.u (.j (.not (.lt (.w 2) (.w 0))) .nil)))
def Px:c_iwi.Ok ZF:=
 A4 ang [.int .i64,.int .i64,.int .i64] fX AR func24<|fun n hn a ha b hb hp ρ g=>by
 simp only[AT,ZE]at g;simp only[ang,c_iwi,Am,YI,ZE,-eq_self,gV,ai,g];apply aI<;>intro c0
 .exact XU
 .exact XU
def c_iwb:Cd:=⟨23,[.one (.int .i8),.one (.int .i8),.one (.int .i8)],[.one .bool],rdZ fun n=>rdZ fun a=>rdZ fun b _=>[.z (Ay ((decide (a<=n)&&decide (n<=b))))],T0⟩
def anh:Tr:=
(.br (.lt (.w 0) (.w 1))
 zlF
(.u (.j (.not (.lt (.w 2) (.w 0))) .nil)))
def aui:c_iwb.Ok ZF:=
 A4 anh [.int .i8,.int .i8,.int .i8] fX AR func23<|fun n hn a ha b hb hp ρ g=>by
 simp only[AT,ZE]at g;simp only[anh,c_iwb,Am,YI,ZE,-eq_self,gV,ai,g];apply aI<;>intro c0
 .exact XU
 .exact XU
def c_isz:Cd:=⟨53,[.one (.int .i8)],[.one .bool],rdZ fun n _=>[.z (Ay (bc n))],T0⟩
def ani:Tr:=
(.br (.eq (.w 0) (.p 1))
 zlT
(.br (.eq (.w 0) (.p 2))
 zlT
(.br (.eq (.w 0) (.p 4))
 zlT
(.u (.j (.eq (.w 0) (.p 8)) .nil)))))
def avW:c_isz.Ok ZF:=
 A4 ani [.int .i8] fX AR func53<|fun n hn hp ρ g=>by
 simp only[AT,ZE]at g;simp only[ani,c_isz,Am,YI,ZE,-eq_self,gV,ai,g]
 .repeat' first|apply aI<;>intro c|exact Xu
def c_ibare:Cd:=⟨25,[.agg kIns],[.agg kIns,.one .bool],rd_Ins fun x _=>d_Ins ((cE x).1) [.z (Ay ((cE x).2))],T0⟩
def UW:E:=(.zs [0,0,0] (.cons (.w 8) (.j (.s 9) .nil)))
def UX:Tr:=(.u (.cons (.w 0) (.cons (.p 0) (.cons (.p 0) (.cons (.w 3) (.j (.tt ZC) (.cons (.p 0) (.cons (.p 0) (.vs 7 2 (.j (.tt ZC) .nil))))))))))
def Se:Tr:=(.br (.s 4)
 UX
(.u (.cons (.w 0) (.cons (.p 0) (.cons (.p 0) (.cons (.w 3) (.j (.tt ZC) (.cons (.p 0) (.vs 6 2 (.cons (.p 0) (.j (.tt ZC) .nil)))))))))))
def VL:Tr:=(.br (.lt (.w 5) (.p 10))
(.br (.eq (.w 1) (.p 8))
(.br (.s 4)
 UX
(.u (.cons (.w 0) (.cons (.p 0) (.cons (.p 0) (.cons (.w 3) (.j (.tt ZC) (.cons (.p 0) (.vs 6 2 (.cons (.p 0) (.j (.eq (.w 8) (.p 0)) .nil)))))))))))
(.br (.s 4)
(.u (.cons (.w 0) (.cons (.p 0) (.cons (.p 0) (.cons (.w 3) (.j (.tt ZC) (.cons (.p 0) (.cons (.p 0) (.vs 7 2 (.j (.tt ZB) .nil))))))))))
(.u (.cons (.w 0) (.cons (.p 0) (.cons (.p 0) (.cons (.w 3) (.j (.tt ZC) (.cons (.p 0) (.vs 6 2 (.cons (.p 0) (.j (.tt ZB) .nil))))))))))))
 Se)
def uz:Tr:=
(.br (.eq (.w 0) (.p 0))
(.call 1 [.bool] (.cons (.w 1) (.cons (.p 0) (.cons (.p 12) .nil))) 9
(.br (.s 9)
(.br (.eq (.w 2) (.p 32))
 VL
(.br (.eq (.w 2) (.p 64))
 VL
 Se))
 Se))
(.br (.eq (.w 0) (.p 1))
(.call 2 [.bool] (.cons (.w 3) .nil) 9
(.br (.s 9)
(.u (.vs 0 3 (.cons (.p 0) (.j (.s 4) (.zs [0,0,0] (.cons (.w 8) (.j (.lt (.w 5) (.p 10)) .nil)))))))
(.u (.vs 0 3 (.cons (.p 0) (.j (.s 4) (.zs [0,0,0] (.cons (.w 8) (.j (.tt ZC) .nil)))))))))
(.br (.eq (.w 0) (.p 2))
(.call 2 [.bool] (.cons (.w 3) .nil) 9
(.u (.vs 0 3 (.cons (.p 0) (.j (.s 4) UW)))))
(.br (.eq (.w 0) (.p 3))
(.call 1 [.bool] (.cons (.w 1) (.cons (.p 0) (.cons (.p 10) .nil))) 9
(.br (.s 4)
(.u (.cons (.w 0) (.cons (.p 0) (.vs 2 2 (.j (.tt ZC) UW)))))
(.u (.cons (.w 0) (.cons (.p 0) (.vs 2 2 (.j (.tt ZC) (.cons (.p 0) (.cons (.w 6) (.cons (.p 0) (.cons (.p 0) (.j (.s 9) .nil))))))))))))
(.br (.eq (.w 0) (.p 4))
(.u (.vs 0 4 (.j (.s 4) (.vs 5 2 (.cons (.p 0) (.cons (.w 8) (.j (.tt ZB) .nil)))))))
(.br (.eq (.w 0) (.p 5))
(.call 0 [.bool] (.cons (.w 8) (.cons (.p 0) (.cons (.p 15) .nil))) 9
(.u (.vs 0 4 (.j (.s 4) (.vs 5 3 (.cons (.p 0) (.j (.s 9) .nil)))))))
(.br (.eq (.w 0) (.p 6))
(.u (.vs 0 4 (.j (.s 4) (.vs 5 4 (.j (.tt ZB) .nil)))))
(.u (.vs 0 4 (.j (.s 4) (.vs 5 4 (.j (.tt ZC) .nil))))))))))))
def ak7:cG afh (FH 0 [c_iwi,c_iwb,c_isz]) [(52,f52,[],[])] [] [] 200 f25 c_ibare.a c_ibare.r (tp c_ibare.r) (v_Ins []) uz:=FJ (by kernel_rfl)
def aru:c_ibare.Ok ZF:=
 GJ uz (v_Ins []) fX (Aq Px<|Aq aui<|Aq avW AR) func25 (Da func52 FD) ak7<|iY fun x hx hp ρ g=>by
 simp only[eD,AT,ZE]at g;simp only[uz,VL,Se,UX,UW,c_iwi,c_iwb,c_isz,c_ibare,eD,Am,YI,ZE,-eq_self,gV,ai,g]
 .repeat' first|apply aI<;>intro c|refine gk ?_|exact Xp
def c_nmay:Cd:=⟨9,[.agg kIns],[.one .bool],rd_Ins fun x _=>[.z (Ay (AL x))],T0⟩
def agI:Tr:=
(.call 1 [.bool] (.cons (.w 5) (.cons (.p 0) (.cons (.p 10) .nil))) 9
(.br (.s 9)
(.call 1 [.bool] (.cons (.w 6) (.cons (.p 0) (.cons (.p 10) .nil))) 10
(.br (.s 10)
(.call 0 [.bool] (.cons (.w 7) (.cons (.p (-32768)) (.cons (.p 32767) .nil))) 11
(.br (.s 11)
(.call 0 [.bool] (.cons (.w 8) (.cons (.p (-2147483648)) (.cons (.p 2147483647) .nil))) 12
(.br (.s 12)
(.call 2 (kIns++[.bool]) (.vs 0 4 (.j (.s 4) (.vs 5 4 .nil))) 13
(.br (.s 22)
(.u (.j (.and (.eq (.w 13) (.w 0)) (.and (.eq (.w 14) (.p 0)) (.and (.eq (.w 15) (.p 0)) (.and (.eq (.w 16) (.p 0)) (.and (.not (.s 17)) (.and (.eq (.w 18) (.p 0)) (.and (.eq (.w 19) (.p 0)) (.and (.eq (.w 20) (.p 0)) (.and (.eq (.w 21) (.p 0)) (.tt ZB)))))))))) .nil))
 zlF))
 zlF))
 zlF))
 zlF))
 zlF))
def R4:c_nmay.Ok ZF:=
 A4 agI (v_Ins []) fX (Aq Px<|Aq aui<|Aq aru AR) func9<|iY fun x hx hp ρ g=>by
 simp only[eD,AT,ZE]at g;simp only[agI,c_iwi,c_iwb,c_ibare,c_nmay,eD,Am,YI,ZE,-eq_self,gV,ai,g];refine gk ?_
 .repeat' first|apply aI<;>intro c|refine gk ?_|exact XI
def c_itgt:Cd:=⟨31,[.one (.int .i64),.agg kIns],[.one (.int .i64),.one .bool],rdZ fun i=>rd_Ins fun x _=>[.z ((AD i x).1),.z (Ay ((AD i x).2))],T0⟩
def Sd:Tr:=(.u (.cons (.p 0) (.j (.tt ZC) .nil)))
def UU:E:=(.cons (.p (-1099511627776)) (.cons (.p 1099511627776) .nil))
def UV:Tr:=(.call 0 [.bool] (.cons (.w 0) UU) 10
(.br (.s 10)
(.call 0 [.bool] (.cons (.w 8) UU) 11
(.br (.s 11)
(.u (.cons (.f .add .i64 (.f .add .i64 (.w 0) (.p 1)) (.w 8)) (.j (.tt ZB) .nil)))
 Sd))
 Sd))
def ag2:Tr:=
(.br (.eq (.w 1) (.p 3))
 UV
(.br (.eq (.w 1) (.p 4))
 UV
 Sd))
def R5:c_itgt.Ok ZF:=
 A4 ag2 (.int .i64::v_Ins []) fX (Aq Px AR) func31<|fun i hi=>iY fun x hx hp ρ g=>by
 simp only[eD,AT,ZE]at g;simp only[ag2,UV,UU,Sd,c_iwi,c_itgt,eD,Am,YI,ZE,-eq_self,gV,ai,g];apply aI<;>intro c0;refine gk ?_;apply aI<;>intro c1;refine gk ?_;apply aI<;>intro c2
 .rw[R7 (.inl (Bs c0)) c1 c2];try rfl
 .rw[anS c2];try rfl
 .rw[anT c1];try rfl
 apply aI<;>intro c3;refine gk ?_;apply aI<;>intro c4;refine gk ?_;apply aI<;>intro c5
 .rw[R7 (.inr (Bs c3)) c4 c5];try rfl
 .rw[anS c5];try rfl
 .rw[anT c4];try rfl
 .rw[aun c0 c3];try rfl
def c_iargs:Cd:=⟨51,[.one (.int .i64)],[.one (.int .i64)],rdZ fun n _=>[.z (iD n)],T0⟩
def abI:Tr:=
(.call 0 [.bool] (.cons (.w 0) (.cons (.p 0) (.cons (.p 15) .nil))) 1
(.br (.s 1)
(.u (.cons (.f .rem .i64 (.w 0) (.p 6)) .nil))
(.u (.cons (.p 0) .nil))))
def zT:c_iargs.Ok ZF:=
 A4 abI [.int .i64] fX (Aq Px AR) func51<|fun n hn hp ρ g=>by
 simp only[AT,ZE]at g;simp only[abI,c_iwi,c_iargs,Am,YI,ZE,-eq_self,gV,ai,g];refine gk ?_;apply aI<;>intro c0
 .rw[arE c0];try rfl
 .rw[arF c0];try rfl
def ig(s:Sta):List Int:=[s.r0.k,s.r1.k,s.r2.k,s.r3.k,s.r4.k,s.r5.k,s.r6.k,s.r7.k,s.r8.k,s.r9.k,s.r10.k]
def Al(s:Sta)(d:Int):Ty:=⟨[s.r0.k,s.r1.k,s.r2.k,s.r3.k,s.r4.k,s.r5.k,s.r6.k,s.r7.k,s.r8.k,s.r9.k,s.r10.k].getD d.toNat 0,[s.r0.ul,s.r1.ul,s.r2.ul,s.r3.ul,s.r4.ul,s.r5.ul,s.r6.ul,s.r7.ul,s.r8.ul,s.r9.ul,s.r10.ul].getD d.toNat 0,[s.r0.uh,s.r1.uh,s.r2.uh,s.r3.uh,s.r4.uh,s.r5.uh,s.r6.uh,s.r7.uh,s.r8.uh,s.r9.uh,s.r10.uh].getD d.toNat 0,[s.r0.sl,s.r1.sl,s.r2.sl,s.r3.sl,s.r4.sl,s.r5.sl,s.r6.sl,s.r7.sl,s.r8.sl,s.r9.sl,s.r10.sl].getD d.toNat 0,[s.r0.sh,s.r1.sh,s.r2.sh,s.r3.sh,s.r4.sh,s.r5.sh,s.r6.sh,s.r7.sh,s.r8.sh,s.r9.sh,s.r10.sh].getD d.toNat 0,[s.r0.v,s.r1.v,s.r2.v,s.r3.v,s.r4.v,s.r5.v,s.r6.v,s.r7.v,s.r8.v,s.r9.v,s.r10.v].getD d.toNat 0,[s.r0.m,s.r1.m,s.r2.m,s.r3.m,s.r4.m,s.r5.m,s.r6.m,s.r7.m,s.r8.m,s.r9.m,s.r10.m].getD d.toNat 0,[s.r0.lo,s.r1.lo,s.r2.lo,s.r3.lo,s.r4.lo,s.r5.lo,s.r6.lo,s.r7.lo,s.r8.lo,s.r9.lo,s.r10.lo].getD d.toNat 0,[s.r0.hi,s.r1.hi,s.r2.hi,s.r3.hi,s.r4.hi,s.r5.hi,s.r6.hi,s.r7.hi,s.r8.hi,s.r9.hi,s.r10.hi].getD d.toNat 0⟩
def D4(c:Bool)(a b:Ty):Ty:=⟨if c=ZB then a.k else b.k,if c=ZB then a.ul else b.ul,if c=ZB then a.uh else b.uh,if c=ZB then a.sl else b.sl,if c=ZB then a.sh else b.sh,if c=ZB then a.v else b.v,if c=ZB then a.m else b.m,if c=ZB then a.lo else b.lo,if c=ZB then a.hi else b.hi⟩
def amP(a b:Ty):D4 ZB a b=a:=rfl
def amQ(a b:Ty):D4 ZC a b=b:=rfl
def BU(s:Sta)(d:Int)(t:Ty):Sta:=⟨D4 (d==0) t s.r0,D4 (d==1) t s.r1,D4 (d==2) t s.r2,D4 (d==3) t s.r3,D4 (d==4) t s.r4,D4 (d==5) t s.r5,D4 (d==6) t s.r6,D4 (d==7) t s.r7,D4 (d==8) t s.r8,D4 (d==9) t s.r9,D4 (d==10) t s.r10,s.s0,s.s1,s.s2,s.s3,s.s4,s.s5,s.s6,s.s7⟩
def GP(t:Ty)(r:List Int):List Int:=t.k::t.ul::t.uh::t.sl::t.sh::t.v::t.m::t.lo::t.hi::r
def BG(s:Sta):List Int:=GP s.r0 (GP s.r1 (GP s.r2 (GP s.r3 (GP s.r4 (GP s.r5 (GP s.r6 (GP s.r7 (GP s.r8 (GP s.r9 (GP s.r10 (GP s.s0 (GP s.s1 (GP s.s2 (GP s.s3 (GP s.s4 (GP s.s5 (GP s.s6 (GP s.s7 ([])))))))))))))))))))
def fH(s:Sta)(n:Nat):Bool:=(List.range 11).any fun k=>n.testBit k&&(ig s).getD k 0==0
def cA(x:Ins)(s:Sta):Ty:=if x.br=ZB then Al s x.s else DH (B7 (ZG .u64 x.imm))
def fT{p:Prog}{i:Int}(hl:p.l.length<=maxLen)(h:(aH p).2=0)(h0:0<=i)(h1:i<(p.l.length:Int)):AL (ab p.l i)=ZB:=by
 obtain⟨n,rfl⟩:=cj h0;have q:=(bj hl h).2.1 n Fn;cases e:AL (ab p.l (n:Int))with
 |true=>rfl
 |false=>rw[ym e]at q;cases q
def zL:∀n,n<2048->0<n->Lib.ctz 64 n<11/\n.testBit (Lib.ctz 64 n)=ZB/\n &&& (n-1)<n/\Ac .and .i64 (n:Int) (Ac .sub .i64 (n:Int) 1)=((n &&& (n-1):Nat):Int)/\IntKind.u64.wrap (n:Int)=(n:Int)/\
  ∀k,k<11->(n &&& (n-1)).testBit k=(n.testBit k &&!(k==Lib.ctz 64 n)):=XY
structure UInv(s:Sta)(R m:Nat):Prop where
 lt:m<2048
 sub:∀k,k<11->m.testBit k=ZB->R.testBit k=ZB
 set:∀k,k<11->R.testBit k=ZB->m.testBit k=ZC->(ig s).getD k 0≠0
def UInv.init{s:Sta}(h:R<2048):UInv s R R:=⟨h,fun _ _ h=>h,fun k _ h1 h2=>by rw[h1]at h2;cases h2⟩
def UInv.next{s:Sta}(h:UInv s R m)(hm:0<m)(hk:((ig s).getD (CL (ZG .u64 (m:Int))).toNat 0==0)=ZC):
  ∃m':Nat,Ac .and .i64 (m:Int) (Ac .sub .i64 (m:Int) 1)=(m':Int)/\UInv s R m'/\m'<m:=by
 obtain⟨b1,b2,b3,b4,b5,b6⟩:=zL m h.lt hm;rw[b5]at hk;have hk:=BM hk;refine⟨m &&& (m-1),b4,⟨Nat.lt_trans b3 h.lt,fun k k1 k2=>h.sub k k1 ?_,fun k k1 k2 k3=> ?_⟩,b3⟩
 .rw[b6 k k1,ne]at k2;exact k2.1
 .rw[b6 k k1]at k3;cases e:m.testBit k with
  |false=>exact h.set k k1 k2 e
  |true=>
    rw[e]at k3;have:k=Lib.ctz 64 m:=by simpa using k3
    rw[this];exact hk
def UInv.bad{s:Sta}(h:UInv s R m)(hm:0<m)(hk:((ig s).getD (CL (ZG .u64 (m:Int))).toNat 0==0)=ZB):fH s R=ZB:=by obtain⟨b1,b2,b3,b4,b5,b6⟩:=zL m h.lt hm;rw[b5]at hk;unfold fH;rw[List.any_eq_true];refine⟨Lib.ctz 64 m,List.mem_range.2 b1,?_⟩;rw[h.sub _ b1 b2];exact hk
def UInv.good{s:Sta}(h:UInv s R 0):fH s R=ZC:=by
 unfold fH;rw[List.any_eq_false];intro k hk;have k1:=List.mem_range.1 hk;cases e:R.testBit k with
 |false=>simp
 |true=>have:=h.set k k1 e (Nat.zero_testBit k);simpa using this
def avm(hm:0<m)(h:m<2048):0<=CL (ZG .u64 (m:Int))/\CL (ZG .u64 (m:Int))<11:=by obtain⟨b1,_,_,_,b5,_⟩:=zL m h hm;rw[b5];unfold CL;rw[cy];omega
def afo:Hx tscal=ZB:=by decide
def aaQ:BJ tscal=ZB:=by decide
def vR:tset tscal=ZB:=by decide
def iy(h0:0<=v)(h1:v<=18446744073709551615):bm tscal v=ZB:=by rw[ue aaQ rfl];show Bf vall v=ZB;exact fA (a:=vall) (kE v h0 h1) (mR v)
def aic{a b:Kn}(_:eN a b=ZB):Bz (jt a b)=ZB:=by unfold jt;split<;>first|exact xJ _ _|exact alD
def ake{a:Sc}(h1:Lz a=ZB)(h2:LA a=ZB):Bl (IP a)=ZB:=by unfold Bl;rw[ne];exact⟨(akx h1).2,aic h2⟩
def jD{a:Sc}:Bl (Ca a)=ZB:=by
 unfold Ca;split
 next h=>unfold C6 at h;simp only[ne]at h;exact ake h.2.2.2.1 h.2.2.2.2
 .exact Os
def yJ{t:Ty}(h:BJ t=ZB)(hk:t.k=1):Bl t.s=ZB:=by unfold BJ at h;rw[aa Fn,ae hk,ne]at h;exact h.1
def yI{t:Ty}(h:BJ t=ZB)(hk:t.k=2\/t.k=3):dZ t=ZB/\t.lo<=t.hi /\ -1048576<=t.lo/\t.hi<=1048576:=by unfold BJ at h;rw[aa Fn,aa Fn,ae hk]at h;simp only[ne,ax]at h;exact h
def aeU{a b:Sc}:Bl (if w=ZB then DC a b else jE a b)=ZB:=by
 cases w with
 |true=>rw[ae rfl];unfold DC;split;exact jD;decide
 |false=>rw[aa (by simp)];unfold jE;split;exact jD;decide
def QZ{a b:Ty}(ha:a.lo<=a.hi /\ -1048576<=a.lo/\a.hi<=1048576)(hb:b.lo<=b.hi /\ -1048576<=b.lo/\b.hi<=1048576):G3 w a b<=a.lo/\G3 w a b<=b.lo/\a.hi<=G2 w a b/\b.hi<=G2 w a b /\ -1048576<=G3 w a b/\G2 w a b<=1048576:=by unfold G3 G2;split<;>split<;>omega
def uc{a b:Ty}(ha:BJ a=ZB)(hb:BJ b=ZB):BJ (cN w a b)=ZB:=by
 unfold cN eh;split
 .rfl
 split
 .exact aaQ
 rename_i h0 h1;have h1:a.k=b.k:=Classical.not_not.1 h1;split
 next hk=>show BJ (ty 1 _ 0 0)=ZB;unfold BJ;rw[aa (by show¬(1:Int)=0;omega),ae (show(ty 1 _ 0 0).k=1 from rfl)];rw[ne];exact⟨aeU,rfl⟩
 .rename_i hk;have Dj:a.k=2\/a.k=3:=by
   rcases mc ha with h|h|h|h
   .exact ak (.inl h) h0
   .exact ak h hk
   .exact .inl h
   .exact .inr h
  have pa:=(yI ha Dj).2;have pb:=(yI hb (h1▸Dj)).2;have q:=QZ (w:=w) pa pb;unfold BJ;rw[aa (by show¬a.k=0;omega),aa (by show¬a.k=1;omega),ae Dj];simp only[dZ,ne,ax];exact⟨by decide,by show G3 w a b<=G2 w a b;omega,q.2.2.2.2.1,q.2.2.2.2.2⟩
def iN(h:Bf s v=ZB):bm (ty 1 s 0 0) v=ZB:=by
 have hm:BJ (ty 1 s 0 0)=ZB:=by unfold BJ;rw[aa (by show¬(1:Int)=0;omega),ae (show(ty 1 _ 0 0).k=1 from rfl),ne];exact⟨eW h,rfl⟩
 rw[ue hm rfl];exact h
def me{t:Ty}(h:bm t v=ZB):BJ t=ZB:=by unfold bm at h;rw[ne]at h;exact h.1
def vV{t:Ty}(hk:t.k=2\/t.k=3)(h:bm t v=ZB):t.lo<=EN t v/\EN t v<=t.hi:=by unfold bm at h;rw[aa Fn,aa Fn,ne,ne]at h;exact⟨Ae h.2.1,Ae h.2.2⟩
def aks{t:Ty}(ht:BJ t=ZB)(hk:t.k=2\/t.k=3)(h:t.lo<=EN t v/\EN t v<=t.hi):bm t v=ZB:=by unfold bm;rw[aa Fn,aa Fn,ht,cP h.1,cP h.2];rfl
def aaV{t:Ty}(hk:t.k=1)(h:bm t v=ZB):Bf t.s v=ZB:=by rw[ue (me h) hk]at h;exact h
def rY{a b:Ty}(wa:a.s.wf)(wb:b.s.wf)(ha:BJ a=ZB)(hb:BJ b=ZB)(hv:0<=v/\v<=18446744073709551615)(h:bm a v=ZB\/bm b v=ZB):bm (cN w a b) v=ZB:=by
 have hj:=uc (w:=w) ha hb;unfold cN eh at hj ⊢;split
 .rfl
 split
 .exact iy hv.1 hv.2
 rename_i h0 h1;rw[aa h0,aa h1]at hj;have h1:a.k=b.k:=Classical.not_not.1 h1;split
 .rename_i hk;have BZ:b.k=1:=h1▸hk;have hh:Bf a.s v=ZB\/Bf b.s v=ZB:=h.imp (aaV hk) (aaV BZ);apply iN;cases w with
  |true=>rw[ae rfl];exact aaH wa wb hv (yJ ha hk) (yJ hb BZ) hh
  |false=>rw[aa (by simp)];exact vJ wa wb hv (yJ ha hk) (yJ hb BZ) hh
 .rename_i hk;rw[aa hk]at hj;have Dj:a.k=2\/a.k=3:=by
   rcases mc ha with h|h|h|h
   .exact ak (.inl h) h0
   .exact ak h hk
   .exact .inl h
   .exact .inr h
  have q:=QZ (w:=w) (yI ha Dj).2 (yI hb (h1▸Dj)).2;refine aks hj Dj ?_;have e:bT ⟨a.k,0,0,0,0,0,0,G3 w a b,G2 w a b⟩=bT a:=rfl;have e2:bT b=bT a:=by unfold bT;rw[h1]
  rcases h with h|h
  .have g:=vV Dj h;unfold EN at g ⊢;rw[e];exact⟨by show G3 w a b<=_;omega,by show _<=G2 w a b;omega⟩
  .have g:=vV (h1▸Dj) h;unfold EN at g ⊢;rw[e,<-e2];exact⟨by show G3 w a b<=_;omega,by show _<=G2 w a b;omega⟩
def ald{a b:Ty}(wa:a.s.wf)(wb:b.s.wf)(ha:BJ a=ZB)(hb:BJ b=ZB){set i:Int}(hv:0<=v/\v<=18446744073709551615)(h:rok set i a v=ZB\/rok set i b v=ZB):rok set i (cN w a b) v=ZB:=by
 unfold rok at h ⊢;simp only[ne,eu]at h ⊢;refine⟨?_,rY wa wb ha hb hv (h.imp And.right And.right)⟩;rcases h with h|h
 .rcases h.1 with g|g
  .exact .inl (by unfold cN;rw[N3 g];rfl)
  .exact .inr g
 .rcases h.1 with g|g
  .exact .inl (by unfold cN;rw[N4 g];rfl)
  .exact .inr g
def ff{a b:Ty}(ha:tset a=ZB)(hb:tset b=ZB):tset (cN w a b)=ZB:=by
 unfold tset at ha hb;rw[ne]at ha hb;have h0:(a.k==0)=ZC:=by simpa using ha.2
 have h1:(b.k==0)=ZC:=by simpa using hb.2
 refine eg ?_ (uc ha.1 hb.1);unfold cN;cases h2:a.k==b.k with
 |false=>rw[VD h0 h1 h2];rfl
 |true=>
   cases h3:a.k==1 with
   |true=>rw[N2 h0 h1 h2 h3];exact h0
   |false=>rw[FB h0 h1 h2 h3];exact h0
structure Sta.wfs(a:Sta):Prop where
 r0:a.r0.s.wf
 r1:a.r1.s.wf
 r2:a.r2.s.wf
 r3:a.r3.s.wf
 r4:a.r4.s.wf
 r5:a.r5.s.wf
 r6:a.r6.s.wf
 r7:a.r7.s.wf
 r8:a.r8.s.wf
 r9:a.r9.s.wf
 r10:a.r10.s.wf
 s0:a.s0.s.wf
 s1:a.s1.s.wf
 s2:a.s2.s.wf
 s3:a.s3.s.wf
 s4:a.s4.s.wf
 s5:a.s5.s.wf
 s6:a.s6.s.wf
 s7:a.s7.s.wf
def afN(h:DR lo hi size=ZB):size=8/\lo=hi/\Ac .rem .i64 lo 8=0:=by unfold DR at h;simp only[ne,cb]at h;exact h
def akS{s:Sta}{x:Snap}(h:EJ s x=ZB)(h0:0<=n)(h1:n<=7):bm (nI s n) (bU x n.toNat)=ZB:=by
 unfold EJ at h;simp only[ne]at h;obtain⟨_,_,_,_,_,_,_,_,_,_,_,_,k0,k1,k2,k3,k4,k5,k6,k7⟩:=h;have:n=0\/n=1\/n=2\/n=3\/n=4\/n=5\/n=6\/n=7:=Fn;rcases this with rfl|rfl|rfl|rfl|rfl|rfl|rfl|rfl
 .exact k0
 .exact k1
 .exact k2
 .exact k3
 .exact k4
 .exact k5
 .exact k6
 .exact k7
def acY{n:Nat}(h:n<18446744073709551616):(ZJ 64 (n:Int)).toNat=n:=by rw[BitVec.toNat_ofInt];omega
def akv{n:Nat}(h1:n<2 ^ k)(hi:k<=i)(h:n<18446744073709551616):tb (n:Int) i=ZC:=by show(ZJ 64 (n:Int)).toNat.testBit i=ZC;rw[acY h];exact Nat.testBit_lt_two_pow (nD h1 (YY Os hi))
def apQ(h:2 ^ k-1<18446744073709551616)(hi:i<k):tb ((2 ^ k-1:Nat):Int) i=ZB:=by show(ZJ 64 _).toNat.testBit i=ZB;rw[acY h,Nat.testBit_two_pow_sub_one,cP hi]
def alE{n:Nat}(h1:n<2 ^ k)(h:2 ^ k-1<18446744073709551616):AU ⟨0,((2 ^ k-1:Nat):Int)⟩ (n:Int)=ZB:=by
 rw[bk (show Kn.wf _ from⟨⟨Int.le_refl _,(by decide:(0:Int)<=18446744073709551615)⟩,⟨Int.natCast_nonneg _,by show((2 ^ k-1:Nat):Int)<=_;omega⟩⟩)];intro i hi;show(tb 0 i&&tb ((2 ^ k-1:Nat):Int) i)=ZC/\(tb (n:Int) i &&!tb ((2 ^ k-1:Nat):Int) i)=tb 0 i;rw[ia];refine⟨rfl,?_⟩;rcases bn i k with Ap|Dp
 .rw[apQ h Ap];simp
 .rw[akv h1 Dp Fn];rfl
def oY{n:Nat}(hk:k<=64)(h1:n<2 ^ k)(h:2 ^ k-1<18446744073709551616):Bf (Hz ((2 ^ k-1:Nat):Int)) (n:Int)=ZB:=by
 have hb:AI (⟨0,((2 ^ k-1:Nat):Int),ball.sl,ball.sh⟩:Rg) (n:Int)=ZB:=by have q:=kE (n:Int) Fn Fn;unfold AI at q ⊢;simp only[ne,ax]at q ⊢;refine⟨?_,⟨by omega,by omega⟩,q.2.2⟩;unfold AS;simp only[ne,ax];exact⟨by omega,by decide⟩
 refine(gK ?_ Fn (fA (a:=sc ⟨0,((2 ^ k-1:Nat):Int),ball.sl,ball.sh⟩ ⟨0,((2 ^ k-1:Nat):Int)⟩) hb (alE h1 h))).2;refine jl ?_ (show Kn.wf _ from⟨⟨Int.le_refl _,(by decide:(0:Int)<=18446744073709551615)⟩,⟨Int.natCast_nonneg _,by show((2 ^ k-1:Nat):Int)<=_;omega⟩⟩);exact⟨⟨Int.le_refl _,(by decide:(0:Int)<=18446744073709551615)⟩,⟨Int.natCast_nonneg _,by show((2 ^ k-1:Nat):Int)<=_;omega⟩,(by decide : -9223372036854775808<=ball.sl/\ball.sl<=9223372036854775807),(by decide : -9223372036854775808<=ball.sh/\ball.sh<=9223372036854775807)⟩
def tX(hs:size=1\/size=2\/size=4\/size=8)(h0:0<=v)(h1:v<256 ^ size.toNat):Bf (C5 size) v=ZB:=by
 obtain⟨n,rfl⟩:=cj h0;rcases hs with rfl|rfl|rfl|rfl
 .exact oY (k:=8) Os (by have:(n:Int)<256:=h1;omega) Os
 .exact oY (k:=16) Os (by have:(n:Int)<65536:=h1;omega) Os
 .exact oY (k:=32) Os (by have:(n:Int)<4294967296:=h1;omega) Os
 .exact oY (k:=64) Os (by have:(n:Int)<18446744073709551616:=h1;omega) Os
def dk(x:Snap)(i:Int):Int:=if i=0 then x.f0 else if i=1 then x.f1 else if i=2 then x.f2 else if i=3 then x.f3 else if i=4 then x.f4 else if i=5 then x.f5 else if i=6 then x.f6 else if i=7 then x.f7 else if i=8 then x.f8 else if i=9 then x.f9 else if i=10 then x.f10 else if i=11 then x.f11 else if i=12 then x.f12 else if i=13 then x.f13 else if i=14 then x.f14 else if i=15 then x.f15 else if i=16 then x.f16 else if i=17 then x.f17 else if i=18 then x.f18 else if i=19 then x.f19 else if i=20 then x.f20 else if i=21 then x.f21 else if i=22 then x.f22 else if i=23 then x.f23 else if i=24 then x.f24 else if i=25 then x.f25 else if i=26 then x.f26 else if i=27 then x.f27 else if i=28 then x.f28 else if i=29 then x.f29 else if i=30 then x.f30 else if i=31 then x.f31 else if i=32 then x.f32 else if i=33 then x.f33 else if i=34 then x.f34 else if i=35 then x.f35 else if i=36 then x.f36 else if i=37 then x.f37 else if i=38 then x.f38 else if i=39 then x.f39 else if i=40 then x.f40 else if i=41 then x.f41 else if i=42 then x.f42 else if i=43 then x.f43 else if i=44 then x.f44 else if i=45 then x.f45 else if i=46 then x.f46 else if i=47 then x.f47 else if i=48 then x.f48 else if i=49 then x.f49 else if i=50 then x.f50 else if i=51 then x.f51 else if i=52 then x.f52 else if i=53 then x.f53 else if i=54 then x.f54 else if i=55 then x.f55 else if i=56 then x.f56 else if i=57 then x.f57 else if i=58 then x.f58 else if i=59 then x.f59 else if i=60 then x.f60 else if i=61 then x.f61 else if i=62 then x.f62 else if i=63 then x.f63 else 0
def Br(x:Snap):Int->Nat->Int
 |_,0=>0
 |i,n+1=>dk x i+256*Br x (i+1) n
def yv{x:Snap}(h:∀i,0<=dk x i/\dk x i<=255):∀(n:Nat) (i:Int),0<=Br x i n/\Br x i n<256 ^ n
 |0,i=>by simp[Br]
 |n+1,i=>by
   have q:=yv h n (i+1);have b:=h i;have e:(256:Int) ^ (n+1)=256*256 ^ n:=by rw[Int.pow_succ];omega
   simp only[Br];rw[e];omega
def pM(x:Snap):Br x 0 8=bU x 0:=by simp[Br,dk,bU,w8]
def pL(x:Snap):Br x 8 8=bU x 1:=by simp[Br,dk,bU,w8]
def pK(x:Snap):Br x 16 8=bU x 2:=by simp[Br,dk,bU,w8]
def pJ(x:Snap):Br x 24 8=bU x 3:=by simp[Br,dk,bU,w8]
def pI(x:Snap):Br x 32 8=bU x 4:=by simp[Br,dk,bU,w8]
def pH(x:Snap):Br x 40 8=bU x 5:=by simp[Br,dk,bU,w8]
def pG(x:Snap):Br x 48 8=bU x 6:=by simp[Br,dk,bU,w8]
def pF(x:Snap):Br x 56 8=bU x 7:=by simp[Br,dk,bU,w8]
def af9{s:Sta}{x:Snap}{i:Int}(hc:BL s lo hi size=ZB)(hx:EJ s x=ZB)(hb:∀i,0<=dk x i/\dk x i<=255)(h0:lo<=i)(h1:i<=hi):bm (oR s lo hi size) (Br x i size.toNat)=ZB:=by
 obtain⟨_,b0,b1,b2,b3⟩:=nL hc;cases h:DR lo hi size with
 |false=>rw[(nM hc h).1];have q:=yv hb size.toNat i;exact iN (tX b3 q.1 q.2)
 |true=>
   rw[(bL hc h).1];obtain⟨rfl,rfl,hr⟩:=afN h;obtain rfl:i=lo:=Fn;obtain⟨e,e0,e1⟩:=yV hc;have AM:i.tmod 8=0:=hr;rw[Int.tmod_eq_emod_of_nonneg b0]at AM;have q:=akS hx e0 e1;rw[e];have:i=0\/i=8\/i=16\/i=24\/i=32\/i=40\/i=48\/i=56:=Fn;rcases this with rfl|rfl|rfl|rfl|rfl|rfl|rfl|rfl
   .exact(pM x)▸q
   .exact(pL x)▸q
   .exact(pK x)▸q
   .exact(pJ x)▸q
   .exact(pI x)▸q
   .exact(pH x)▸q
   .exact(pG x)▸q
   .exact(pF x)▸q
def aT(v i:Int):Int:=v / 256 ^ i.toNat % 256
def C8(x:Snap)(a v n:Int):Snap:={x with f0:=if a<=0/\0<a+n then aT v (0-a)else x.f0,f1:=if a<=1/\1<a+n then aT v (1-a)else x.f1,f2:=if a<=2/\2<a+n then aT v (2-a)else x.f2,f3:=if a<=3/\3<a+n then aT v (3-a)else x.f3,f4:=if a<=4/\4<a+n then aT v (4-a)else x.f4,f5:=if a<=5/\5<a+n then aT v (5-a)else x.f5,f6:=if a<=6/\6<a+n then aT v (6-a)else x.f6,f7:=if a<=7/\7<a+n then aT v (7-a)else x.f7,f8:=if a<=8/\8<a+n then aT v (8-a)else x.f8,f9:=if a<=9/\9<a+n then aT v (9-a)else x.f9,f10:=if a<=10/\10<a+n then aT v (10-a)else x.f10,f11:=if a<=11/\11<a+n then aT v (11-a)else x.f11,f12:=if a<=12/\12<a+n then aT v (12-a)else x.f12,f13:=if a<=13/\13<a+n then aT v (13-a)else x.f13,f14:=if a<=14/\14<a+n then aT v (14-a)else x.f14,f15:=if a<=15/\15<a+n then aT v (15-a)else x.f15,f16:=if a<=16/\16<a+n then aT v (16-a)else x.f16,f17:=if a<=17/\17<a+n then aT v (17-a)else x.f17,f18:=if a<=18/\18<a+n then aT v (18-a)else x.f18,f19:=if a<=19/\19<a+n then aT v (19-a)else x.f19,f20:=if a<=20/\20<a+n then aT v (20-a)else x.f20,f21:=if a<=21/\21<a+n then aT v (21-a)else x.f21,f22:=if a<=22/\22<a+n then aT v (22-a)else x.f22,f23:=if a<=23/\23<a+n then aT v (23-a)else x.f23,f24:=if a<=24/\24<a+n then aT v (24-a)else x.f24,f25:=if a<=25/\25<a+n then aT v (25-a)else x.f25,f26:=if a<=26/\26<a+n then aT v (26-a)else x.f26,f27:=if a<=27/\27<a+n then aT v (27-a)else x.f27,f28:=if a<=28/\28<a+n then aT v (28-a)else x.f28,f29:=if a<=29/\29<a+n then aT v (29-a)else x.f29,f30:=if a<=30/\30<a+n then aT v (30-a)else x.f30,f31:=if a<=31/\31<a+n then aT v (31-a)else x.f31,f32:=if a<=32/\32<a+n then aT v (32-a)else x.f32,f33:=if a<=33/\33<a+n then aT v (33-a)else x.f33,f34:=if a<=34/\34<a+n then aT v (34-a)else x.f34,f35:=if a<=35/\35<a+n then aT v (35-a)else x.f35,f36:=if a<=36/\36<a+n then aT v (36-a)else x.f36,f37:=if a<=37/\37<a+n then aT v (37-a)else x.f37,f38:=if a<=38/\38<a+n then aT v (38-a)else x.f38,f39:=if a<=39/\39<a+n then aT v (39-a)else x.f39,f40:=if a<=40/\40<a+n then aT v (40-a)else x.f40,f41:=if a<=41/\41<a+n then aT v (41-a)else x.f41,f42:=if a<=42/\42<a+n then aT v (42-a)else x.f42,f43:=if a<=43/\43<a+n then aT v (43-a)else x.f43,f44:=if a<=44/\44<a+n then aT v (44-a)else x.f44,f45:=if a<=45/\45<a+n then aT v (45-a)else x.f45,f46:=if a<=46/\46<a+n then aT v (46-a)else x.f46,f47:=if a<=47/\47<a+n then aT v (47-a)else x.f47,f48:=if a<=48/\48<a+n then aT v (48-a)else x.f48,f49:=if a<=49/\49<a+n then aT v (49-a)else x.f49,f50:=if a<=50/\50<a+n then aT v (50-a)else x.f50,f51:=if a<=51/\51<a+n then aT v (51-a)else x.f51,f52:=if a<=52/\52<a+n then aT v (52-a)else x.f52,f53:=if a<=53/\53<a+n then aT v (53-a)else x.f53,f54:=if a<=54/\54<a+n then aT v (54-a)else x.f54,f55:=if a<=55/\55<a+n then aT v (55-a)else x.f55,f56:=if a<=56/\56<a+n then aT v (56-a)else x.f56,f57:=if a<=57/\57<a+n then aT v (57-a)else x.f57,f58:=if a<=58/\58<a+n then aT v (58-a)else x.f58,f59:=if a<=59/\59<a+n then aT v (59-a)else x.f59,f60:=if a<=60/\60<a+n then aT v (60-a)else x.f60,f61:=if a<=61/\61<a+n then aT v (61-a)else x.f61,f62:=if a<=62/\62<a+n then aT v (62-a)else x.f62,f63:=if a<=63/\63<a+n then aT v (63-a)else x.f63}
def lT(x:Snap)(a v n:Int)(i:Int)(h0:0<=i)(h1:i<=63):dk (C8 x a v n) i=if a<=i/\i<a+n then aT v (i-a)else dk x i:=by have:i=0\/i=1\/i=2\/i=3\/i=4\/i=5\/i=6\/i=7\/i=8\/i=9\/i=10\/i=11\/i=12\/i=13\/i=14\/i=15\/i=16\/i=17\/i=18\/i=19\/i=20\/i=21\/i=22\/i=23\/i=24\/i=25\/i=26\/i=27\/i=28\/i=29\/i=30\/i=31\/i=32\/i=33\/i=34\/i=35\/i=36\/i=37\/i=38\/i=39\/i=40\/i=41\/i=42\/i=43\/i=44\/i=45\/i=46\/i=47\/i=48\/i=49\/i=50\/i=51\/i=52\/i=53\/i=54\/i=55\/i=56\/i=57\/i=58\/i=59\/i=60\/i=61\/i=62\/i=63:=Fn;rcases this with rfl|rfl|rfl|rfl|rfl|rfl|rfl|rfl|rfl|rfl|rfl|rfl|rfl|rfl|rfl|rfl|rfl|rfl|rfl|rfl|rfl|rfl|rfl|rfl|rfl|rfl|rfl|rfl|rfl|rfl|rfl|rfl|rfl|rfl|rfl|rfl|rfl|rfl|rfl|rfl|rfl|rfl|rfl|rfl|rfl|rfl|rfl|rfl|rfl|rfl|rfl|rfl|rfl|rfl|rfl|rfl|rfl|rfl|rfl|rfl|rfl|rfl|rfl|rfl<;>rfl
def akR{s:Sta}{p:Int->Bool}{t:Ty}(h:AV s=ZB)(ht:tset t=ZB):AV (BA s p t)=ZB:=by
 have P:∀{c:Bool} {u:Ty},tset u=ZB->tset (if c=ZB then t else u)=ZB:=fun {c u} hu=>by cases c;exact hu;exact ht
 unfold AV at h ⊢;simp only[ne]at h ⊢;obtain⟨r0,r1,r2,r3,r4,r5,r6,r7,r8,r9,r10,h0,h1,h2,h3,h4,h5,h6,h7⟩:=h;exact⟨r0,r1,r2,r3,r4,r5,r6,r7,r8,r9,r10,P h0,P h1,P h2,P h3,P h4,P h5,P h6,P h7⟩
def gO{c:Bool}{t u:Ty}{w w':Int}(h1:c=ZB->bm t w'=ZB)(h2:c=ZC->w'=w)(hu:bm u w=ZB):bm (if c=ZB then t else u) w'=ZB:=by
 cases c with
 |true=>exact h1 rfl
 |false=>rw[h2 rfl];exact hu
def kl{x y:Snap}:∀(n:Nat) (i:Int),(∀j:Int,i<=j->j<i+n->dk x j=dk y j)->Br x i n=Br y i n
 |0,_,_=>rfl
 |n+1,i,h=>by simp only[Br];rw[h i Fn Fn,kl n (i+1) (fun j h0 h1=>h j Fn Fn)]
def Rl(v:Int){x:Snap}{a:Int}:∀(n m:Nat),(∀j:Nat,m<=j->j<m+n->dk x (a+j)=aT v j)->Br x (a+m) n=v / 256 ^ m % 256 ^ n
 |0,m,_=>by simp[Br,Int.emod_one]
 |n+1,m,h=>by
   simp only[Br];have e:(a+(m:Int))+1=a+((m+1:Nat):Int):=Fn;rw[h m Fn Fn,e,Rl v n (m+1) (fun j h0 h1=>h j Fn Fn)];have e1:v / 256 ^ (m+1)=v / 256 ^ m / 256:=by rw[Int.pow_succ,Int.ediv_ediv_of_nonneg (by exact Int.le_of_lt (Int.pow_pos Os))]
   have e2:(256:Int) ^ (n+1)=256*256 ^ n:=by rw[Int.pow_succ];omega
   show v / 256 ^ ((m:Int).toNat) % 256+_=_;rw[cy,e1,e2];generalize v / 256 ^ m=q;generalize (256:Int) ^ n=P;have h3:q / (256*P)=q / 256 / P:=(Int.ediv_ediv_of_nonneg Os).symm;rw[Int.emod_def q (256*P),h3,Int.emod_def (q / 256) P,Int.emod_def q 256,Int.mul_sub,Int.mul_assoc];generalize P*(q / 256 / P)=Z;omega
def aaA{x:Snap}(k:Nat)(hk:k<=7)(h:a+n<=8*k\/8*k+8<=a):bU (C8 x a v n) k=bU x k:=by
 have e:∀y:Snap,bU y k=Br y (8*k) 8:=by
  intro y;have:k=0\/k=1\/k=2\/k=3\/k=4\/k=5\/k=6\/k=7:=Fn;rcases this with rfl|rfl|rfl|rfl|rfl|rfl|rfl|rfl
  .exact(pM y).symm
  .exact(pL y).symm
  .exact(pK y).symm
  .exact(pJ y).symm
  .exact(pI y).symm
  .exact(pH y).symm
  .exact(pG y).symm
  .exact(pF y).symm
 rw[e,e];refine kl 8 _ fun j h0 h1=> ?_;rw[lT _ _ _ _ _ Fn Fn,aa Fn]
def apo{x:Snap}(k:Nat)(hk:k<=7)(h0:0<=v)(h1:v<=18446744073709551615):bU (C8 x (8*k) v 8) k=v:=by
 have e:∀y:Snap,bU y k=Br y (8*k+(0:Nat)) 8:=by
  intro y;have:k=0\/k=1\/k=2\/k=3\/k=4\/k=5\/k=6\/k=7:=Fn;rcases this with rfl|rfl|rfl|rfl|rfl|rfl|rfl|rfl
  .exact(pM y).symm
  .exact(pL y).symm
  .exact(pK y).symm
  .exact(pJ y).symm
  .exact(pI y).symm
  .exact(pH y).symm
  .exact(pG y).symm
  .exact(pF y).symm
 rw[e,Rl v 8 0 (fun j g0 g1=>by rw[lT _ _ _ _ _ Fn Fn,ae Fn];congr 1;omega)];show v / 1 % 18446744073709551616=v;omega
def abd{s:Sta}{x:Snap}{p:Int->Bool}{t:Ty}(hx:EJ s x=ZB)(ht:tset t=ZB)(hk:∀k:Nat,k<=7->(p k=ZB->bm t (bU (C8 x a v n) k)=ZB)/\(p k=ZC->bU (C8 x a v n) k=bU x k)):EJ (BA s p t) (C8 x a v n)=ZB:=by
 unfold EJ at hx ⊢;simp only[ne]at hx ⊢;obtain⟨hm,r0,r1,r2,r3,r4,r5,r6,r7,r8,r9,r10,k0,k1,k2,k3,k4,k5,k6,k7⟩:=hx;exact⟨akR hm ht,r0,r1,r2,r3,r4,r5,r6,r7,r8,r9,r10,
  gO (hk 0 Os).1 (hk 0 Os).2 k0,gO (hk 1 Os).1 (hk 1 Os).2 k1,
  gO (hk 2 Os).1 (hk 2 Os).2 k2,gO (hk 3 Os).1 (hk 3 Os).2 k3,
  gO (hk 4 Os).1 (hk 4 Os).2 k4,gO (hk 5 Os).1 (hk 5 Os).2 k5,
  gO (hk 6 Os).1 (hk 6 Os).2 k6,gO (hk 7 Os).1 (hk 7 Os).2 k7⟩
def aj5{x:Snap}(hb:∀i,0<=dk x i/\dk x i<=255)(i:Int)(h0:0<=i)(h1:i<=63):0<=dk (C8 x a v n) i/\dk (C8 x a v n) i<=255:=by
 rw[lT _ _ _ _ _ h0 h1];split
 .unfold aT;omega
 .exact hb i
def aeF{x:Snap}(hb:∀i,0<=dk x i/\dk x i<=255)(k:Nat)(hk:k<=7):0<=bU (C8 x a v n) k/\bU (C8 x a v n) k<=18446744073709551615:=by
 have B:∀i:Nat,i<=63->0<=dk (C8 x a v n) i/\dk (C8 x a v n) i<=255:=fun i hi=>aj5 hb i Fn Fn;have e:bU (C8 x a v n) k=Br (C8 x a v n) (8*k) 8:=by
  have:k=0\/k=1\/k=2\/k=3\/k=4\/k=5\/k=6\/k=7:=Fn;rcases this with rfl|rfl|rfl|rfl|rfl|rfl|rfl|rfl
  .exact(pM _).symm
  .exact(pL _).symm
  .exact(pK _).symm
  .exact(pJ _).symm
  .exact(pI _).symm
  .exact(pH _).symm
  .exact(pG _).symm
  .exact(pF _).symm
 rw[e];have C:∀(m:Nat) (j:Nat),j+m<=64->0<=Br (C8 x a v n) j m/\Br (C8 x a v n) j m<256 ^ m:=by
  intro m
  induction m with
  |zero=>intro j _;simp[Br]
  |succ m ih=>
    intro j hj;have q:=ih (j+1) Fn;have b:=B j Fn;have e2:(256:Int) ^ (m+1)=256*256 ^ m:=by rw[Int.pow_succ];omega
    simp only[Br];rw[e2];rw[show((j:Int)+1)=((j+1:Nat):Int) by omega];omega
 have q:=C 8 (8*k) Fn;rw[show((8*k:Nat):Int)=8*(k:Int) by omega]at q;exact⟨q.1,by have:=q.2;simp at this;omega⟩
def adn{s:Sta}{x:Snap}{t:Ty}(hc:BL s lo hi size=ZB)(ht:tset t=ZB)(hx:EJ s x=ZB)(hb:∀i,0<=dk x i/\dk x i<=255)(h0:lo<=a)(h1:a<=hi)(hv:bm t v=ZB)(v0:0<=v)(v1:v<=18446744073709551615):EJ (je s lo hi size t) (C8 x a v size)=ZB:=by
 obtain⟨_,b0,b1,b2,b3⟩:=nL hc;cases h:DR lo hi size with
 |false=>
   rw[(ly hc ht h).1];refine abd hx vR fun k hk=>⟨fun _=>iy (aeF hb k hk).1 (aeF hb k hk).2,fun hp=> ?_⟩
   simp only[Bool.and_eq_false_iff,mf]at hp;exact aaA k hk Fn
 |true=>
   rw[(bi hc ht h).1];obtain⟨rfl,rfl,hr⟩:=afN h;obtain rfl:a=lo:=Fn;obtain⟨e,e0,e1⟩:=yV hc;have AM:a.tmod 8=0:=hr;rw[Int.tmod_eq_emod_of_nonneg b0]at AM;refine abd hx ht fun k hk=>⟨fun hp=> ?_,fun hp=> ?_⟩
   .rw[cb,e]at hp;obtain rfl:a=8*(k:Int):=Fn;rw[apo k hk v0 v1];exact hv
   .rw[jq,e]at hp;exact aaA k hk Fn
def frD(y:Snap):List Dt:=[.z y.f0,.z y.f1,.z y.f2,.z y.f3,.z y.f4,.z y.f5,.z y.f6,.z y.f7,.z y.f8,.z y.f9,.z y.f10,.z y.f11,.z y.f12,.z y.f13,.z y.f14,.z y.f15,.z y.f16,.z y.f17,.z y.f18,.z y.f19,.z y.f20,.z y.f21,.z y.f22,.z y.f23,.z y.f24,.z y.f25,.z y.f26,.z y.f27,.z y.f28,.z y.f29,.z y.f30,.z y.f31,.z y.f32,.z y.f33,.z y.f34,.z y.f35,.z y.f36,.z y.f37,.z y.f38,.z y.f39,.z y.f40,.z y.f41,.z y.f42,.z y.f43,.z y.f44,.z y.f45,.z y.f46,.z y.f47,.z y.f48,.z y.f49,.z y.f50,.z y.f51,.z y.f52,.z y.f53,.z y.f54,.z y.f55,.z y.f56,.z y.f57,.z y.f58,.z y.f59,.z y.f60,.z y.f61,.z y.f62,.z y.f63]
def arQ(y:Snap):∀j:Nat,j<64->(frD y)[j]? =ZA (.z (dk y j)):=by intro j hj;have:j=0\/j=1\/j=2\/j=3\/j=4\/j=5\/j=6\/j=7\/j=8\/j=9\/j=10\/j=11\/j=12\/j=13\/j=14\/j=15\/j=16\/j=17\/j=18\/j=19\/j=20\/j=21\/j=22\/j=23\/j=24\/j=25\/j=26\/j=27\/j=28\/j=29\/j=30\/j=31\/j=32\/j=33\/j=34\/j=35\/j=36\/j=37\/j=38\/j=39\/j=40\/j=41\/j=42\/j=43\/j=44\/j=45\/j=46\/j=47\/j=48\/j=49\/j=50\/j=51\/j=52\/j=53\/j=54\/j=55\/j=56\/j=57\/j=58\/j=59\/j=60\/j=61\/j=62\/j=63:=Fn;rcases this with rfl|rfl|rfl|rfl|rfl|rfl|rfl|rfl|rfl|rfl|rfl|rfl|rfl|rfl|rfl|rfl|rfl|rfl|rfl|rfl|rfl|rfl|rfl|rfl|rfl|rfl|rfl|rfl|rfl|rfl|rfl|rfl|rfl|rfl|rfl|rfl|rfl|rfl|rfl|rfl|rfl|rfl|rfl|rfl|rfl|rfl|rfl|rfl|rfl|rfl|rfl|rfl|rfl|rfl|rfl|rfl|rfl|rfl|rfl|rfl|rfl|rfl|rfl|rfl<;>rfl
def S7(y:Snap):List Int:=[y.f0,y.f1,y.f2,y.f3,y.f4,y.f5,y.f6,y.f7,y.f8,y.f9,y.f10,y.f11,y.f12,y.f13,y.f14,y.f15,y.f16,y.f17,y.f18,y.f19,y.f20,y.f21,y.f22,y.f23,y.f24,y.f25,y.f26,y.f27,y.f28,y.f29,y.f30,y.f31,y.f32,y.f33,y.f34,y.f35,y.f36,y.f37,y.f38,y.f39,y.f40,y.f41,y.f42,y.f43,y.f44,y.f45,y.f46,y.f47,y.f48,y.f49,y.f50,y.f51,y.f52,y.f53,y.f54,y.f55,y.f56,y.f57,y.f58,y.f59,y.f60,y.f61,y.f62,y.f63]
def arP(y:Snap){i:Int}(h0:0<=i)(h1:i<=63):(S7 y).getD i.toNat 0=dk y i:=by
 have e:frD y=(S7 y).map Dt.z:=rfl;have h:=arQ y i.toNat Fn;rw[e,iO]at h;cases hx:(S7 y)[i.toNat]? with
 |none=>rw[hx]at h;cases h
 |some z=>rw[hx]at h;simp only[Option.map_some,aU,Dt.z.injEq]at h;rw[bh,hx];simp only[Option.getD_some];rw[h];congr 1;omega
def aaB{a b:Sc}(wA:a.wf)(wB:b.wf):(fd op a b).wf:=by
 unfold fd KC;have w1:=yx fz;split
 .exact w1
 .split
  .split
   .split
    .exact Rs wA.r (by rw[amK];exact yw (iH _ _).1 (iH _ _).2)
    .exact w1
   .exact w1
  .split
   .exact Rs wA.r wB.r
   .exact w1
def apz{l:Int}{a b:Sc}(ha:a.wf)(hb:b.wf){p:Int}(hp:0<=p/\p<=18446744073709551615)(hq:0<=q/\q<=18446744073709551615)(h1:Bf a p=ZB)(h2:Bf b q=ZB)(hk:BT op l=ZB):Bf (G4 op l a b) (BI op l p q)=ZB:=by
 obtain⟨h0,HB,hl⟩:=Uk hk;have hz:=fc op l p q hp.1 hp.2 hq.1 hq.2;unfold G4;rw[ae ⟨hk,eW h1,eW h2⟩];rcases hl with rfl|rfl
 .rw[aa Os];have g1:=aaL ha hp h1;have g2:=aaL hb hq h2;have wA:=nA ha;have wB:=nA hb;have bp:=dJ p 32 hp.1 hp.2;have bq:=dJ q 32 hq.1 hq.2;have cp:Ar p 32<=4294967295:=by rw[dM];omega
  have cq:Ar q 32<=4294967295:=by rw[dM];omega
  have hh:=al4 wA wB h0 HB bp.1 cp bq.1 cq g1 g2;have hK:=ail h0 HB (w:=32) (.inl rfl) wA.k wB.k (fV g1) (fV g2) bp bq;rw[aay]at hh hK;have hR:=aaB (op:=op) wA wB;have hn:=gK (a:=Pa op 32 a b) (jl hR (Rr wA.k wB.k op 32)) hz (fA (a:=sc _ _) hh hK);rw[ae hn.1];exact hn.2
 .rw[ae rfl];exact(gK (jl (Rs ha.r hb.r) (Rr ha.k hb.k op 64)) hz (fA (a:=sc _ _) (Uv ha.r hb.r hp.1 hp.2 hq.1 hq.2 (fG h1) (fG h2) hz.1 hz.2) (ail h0 HB (.inr rfl) ha.k hb.k (fV h1) (fV h2) hp hq))).2
def tP(hv:0<=v/\v<=18446744073709551615):(B7 v).wf:=jl (yw hv.1 hv.2) (tS hv)
def tW(hv:0<=v/\v<=18446744073709551615):Bf (B7 v) v=ZB:=fA (a:=B7 v) ac0 (ve hv)
def vF(v:Int):Ar v 64=v:=by unfold Ar;simp
def yr(w p q:Int):BI 11 w p q=Ar (Ar q w) w:=by unfold BI B4;simp
def apl(w p q r:Int):BI 8 w p q=BI 8 w p r:=by unfold BI B4;simp
def asy(op p q:Int):0<=BI op 32 p q/\BI op 32 p q<4294967296:=by unfold BI;rw[dM];omega
def kp{t:Ty}(h:bm t v=ZB)(hk:t.k=1):Bf t.s v=ZB:=by rw[ue (me h) hk]at h;exact h
def o8{t:Ty}:Au t=ZB↔t.k=2\/t.k=3:=by unfold Au;simp
def ub{t:Ty}(h:BJ t=ZB)(hp:Au t=ZC)(h0:t.k≠0):t.k=1:=by
 have h1:¬(t.k=2\/t.k=3):=fun e=>by rw[o8.2 e]at hp;cases hp
 have:=mc h;omega
def ud(t:Ty)(v:Int):EN t v=(v-bT t+9223372036854775808) % 18446744073709551616-9223372036854775808:=by unfold EN;rw[aK,bg];omega
def yM{t:Ty}(hk:t.k=2\/t.k=3):bm t v=ZB↔BJ t=ZB/\t.lo<=EN t v/\EN t v<=t.hi:=by unfold bm;rw[aa Fn,aa Fn];simp only[ne,ax]
def asG(h:Bf s q=ZB):s.sl<=BY q/\BY q<=s.sh:=by have:=(aR _ _).1 (fG h);exact⟨this.2.2.1,this.2.2.2⟩
def sH{t:Ty}{p:Int}(b:Bool)(ht:bm t p=ZB)(hk:t.k=2\/t.k=3)(hs:Bf s q=ZB)(hp:0<=p/\p<=18446744073709551615)(hq:0<=q/\q<=18446744073709551615):
  bm (oA t s b) ((if b=ZB then p-q else p+q) % 18446744073709551616)=ZB:=by
 unfold oA;split
 .rename_i h;simp only[BK,ne,ax]at h;obtain⟨⟨s1,s2⟩,⟨l1,l2⟩,l3,l4⟩:=h;obtain⟨ho,h1,h2⟩:=(yM hk).1 ht;obtain⟨t1,t2,t3,t4⟩:=yI ho hk;obtain⟨v1,v2⟩:=asG hs;have e64:BY q=if q<9223372036854775808 then q else q-18446744073709551616:=by unfold BY;rw[N8];split<;>omega
  have hb:bT (au t s b)=bT t:=rfl;have Ds:bT t=2097152\/bT t=3145728:=by unfold bT;split<;>simp
  have BZ:(au t s b).k=2\/(au t s b).k=3:=hk;rw[yM BZ,ud,hb];rw[ud]at h1 h2;have S6:(au t s b).lo=t.lo+(if b=ZB then -s.sh else s.sl):=by show IntKind.i64.wrap (t.lo+B3 s b)=_;unfold B3;rw[aK];cases b<;>simp only[aW,dz,ZY]<;>(try rw[aK])<;>omega
  have S5:(au t s b).hi=t.hi+(if b=ZB then -s.sl else s.sh):=by show IntKind.i64.wrap (t.hi+B2 s b)=_;unfold B2;rw[aK];cases b<;>simp only[aW,dz,ZY]<;>(try rw[aK])<;>omega
  rw[S6]at l1 l2 ⊢;rw[S5]at l3 l4 ⊢;refine⟨?_,?_⟩
  .unfold BJ;rw[aa Fn,aa Fn,ae BZ];simp only[ne,ax];rw[S6,S5];refine⟨t1,?_,l1,l4⟩;cases b<;>simp only[aW,dz,ZY]<;>omega
  .split at e64<;>cases b<;>simp only[aW,dz,ZY]at * <;>omega
 .exact iy YG YG
def ou{w:Int}{a b:Ty}{p:Int}(ha:bm a p=ZB)(hb:bm b q=ZB)(wa:a.s.wf)(wb:b.s.wf)(hk:BT op w=ZB)(a0:a.k≠0)(b0:b.k≠0)(hp:0<=p/\p<=18446744073709551615)(hq:0<=q/\q<=18446744073709551615):bm (bf op w a b) (BI op w p q)=ZB:=by
 obtain⟨h0,HB,hl⟩:=Uk hk;have hz:=fc op w p q hp.1 hp.2 hq.1 hq.2;have ta:=me ha;have tb:=me hb;unfold bf;split
 next h=>simp only[ne,ZL]at h;exact iN (apz wa wb hp hq (kp ha (ub ta h.1 a0)) (kp hb (ub tb h.2 b0)) hk)
 .rename_i h;split
  .rename_i h2;obtain⟨rfl,h3,h4⟩:=h2;have Tj:Au a=ZB:=by cases e:Au a with
    |true=>rfl
    |false=>rw[e,h3]at h;exact(h rfl).elim
   have q1:=sH (op==1) ha (o8.1 Tj) (kp hb (ub tb h3 b0)) hp hq;rcases h4 with rfl|rfl
   .simpa[BI,B4,vF]using q1
   .simpa[BI,B4,vF]using q1
  .split
   .rename_i h2;obtain⟨rfl,h3,rfl⟩:=h2;have Qm:Au b=ZB:=by cases e:Au b with
     |true=>rfl
     |false=>rw[e,h3]at h;exact(h rfl).elim
    have q1:=sH ZC hb (o8.1 Qm) (kp ha (ub ta h3 a0)) hq hp;simpa[BI,B4,vF,Int.add_comm]using q1
   .split
    .exact iy hz.1 hz.2
    next h5=>have hw:w=32:=Fn;subst hw;have z:=asy op p q;exact iN (tX (.inr (.inr (.inl rfl))) z.1 z.2)
def vU(hv:0<=v/\v<=18446744073709551615):bm (DH (B7 v)) v=ZB:=iN (tW hv)
def aeY{x:Ins}{a b:Ty}{p:Int}(ha:bm a p=ZB)(hb:bm b q=ZB)(wa:a.s.wf)(wb:b.s.wf)(hk:BT x.op x.w=ZB)(a0:x.op≠11->a.k≠0)(b0:x.op≠8->b.k≠0)(hp:0<=p/\p<=18446744073709551615)(hq:0<=q/\q<=18446744073709551615):bm (Do x a b) (BI x.op x.w p q)=ZB:=by
 obtain⟨h0,HB,hl⟩:=Uk hk;unfold Do HN HO;by_cases Gr:x.op=11
 .rw[ae Gr,aa (by omega:¬x.op=8)];split
  next h=>rw[h.1,h.2,yr,vF,vF];exact hb
  .have e:BI x.op x.w p q=BI x.op x.w q q:=by rw[Gr,yr,yr]
   rw[e];exact ou hb hb wb wb hk (b0 Fn) (b0 Fn) hq hq
 .rw[aa (fun h=>Gr h.1),aa Gr];by_cases h8:x.op=8
  .rw[ae h8];have e:BI x.op x.w p q=BI x.op x.w p 0:=by rw[h8];exact apl _ _ _ _
   rw[e];exact ou (b:=DH (B7 0)) (q:=0) ha (vU (v:=0) Fn) wa (tP (v:=0) Fn) hk (a0 Gr) (show(1:Int)≠0 by omega) hp Fn
  .rw[aa h8];exact ou ha hb wa wb hk (a0 Gr) (b0 h8) hp hq
def bv:=aI Kn.eta (aI Pi.eta (aI Pu.eta (aI Rg.eta (aI Sc.eta (aI Sc.eta_r (aI Sc.eta_k (Sc.eta_2)))))))
def aM{q:Prop}(k:q2)(h:p->q=q2:=by intro e;(try simp only[e,bv,-eq_self]);rfl):p->q:=fun e=>(h e).symm▸k
def apE:List (Nat×TI):=[(2,DA),
 (3,C1),
 (39,hZ),
 (43,hJ),
 (57,lm),
 (59,oQ),
 (61,SE)]
def cg:∀t i,(t,i)∈apE->TIok ZF t i:=bK Ch Ch (by kernel_rfl)
def c_vcom:Cd:=⟨119,[.agg kRg],[.agg kKn],rd_Rg fun a _=>d_Kn (FV a) [],T0⟩
def UT:E:=(.f .sub .u64 (.f .shl .u64 (.p 1) (.f .sub .i64 (.p 64) (.w 4))) (.p 1))
def agw:Tr:=
(.call 0 [.int .i64] (.cons (.f .xor .u64 (.w 0) (.w 1)) .nil) 4
(.br (.lt (.p 0) (.w 4))
(.br (.lt (.f .sub .i64 (.p 64) (.w 4)) (.p 0))
.panic
(.u (.cons (.f .andNot .u64 (.w 0) UT) (.cons UT .nil))))
(.u (.cons (.f .andNot .u64 (.w 0) (.p 18446744073709551615)) (.cons (.p 18446744073709551615) .nil)))))
def atW:c_vcom.Ok ZF:=
 A4 agw (v_Rg []) cg (Aq QR AR) func119<|dG fun a ha hp ρ g=>by
 simp only[AP,A1,AT,ZE]at g;simp only[agw,UT,c_lz,c_vcom,AP,A1,Am,YI,ZE,-eq_self,bv,g];refine aM ?_;apply aI<;>intro c0;apply aI<;>intro c1
 ·(have hx:=rU a.ul a.uh;have hb:aA (bits .xor .u64 a.ul a.uh).toNat<=64:=gF Fn;have h1:ZG .i64 (64-(64-(aA (bits .xor .u64 a.ul a.uh).toNat:Int)))<0:=Ae c1;rw[aK]at h1;omega)
 .exact dX (atO (Rg.wf_of ha))
 .exact dX (atP (Rg.wf_of ha) c0)
def c_vnar:Cd:=⟨75,[.agg kSc],[.agg kSc,.one .bool],rd_Sc fun a _=>d_Sc (Ca a) [.z (Ay (C6 a))],T0⟩
def ags:Tr:=
(.call 0 [.bool] (.vs 0 6 .nil) 6
(.br (.s 6)
(.call 2 (kRg) .nil 7
(.call 3 (kRg++[.bool]) (.vs 0 5 (.cons (.f .or .u64 (.w 4) (.w 5)) (.vs 9 2 .nil))) 11
(.br (.s 15)
(.call 5 (kKn) (.vs 11 4 .nil) 16
(.call 4 (kKn++[.bool]) (.vs 4 2 (.vs 16 2 .nil)) 18
(.br (.s 20)
(.call 3 (kRg++[.bool]) (.vs 11 4 (.cons (.w 18) (.cons (.f .or .u64 (.w 18) (.w 19)) (.vs 9 2 .nil)))) 21
(.br (.s 25)
(.call 5 (kKn) (.vs 21 4 .nil) 26
(.call 4 (kKn++[.bool]) (.vs 18 2 (.vs 26 2 .nil)) 28
(.br (.s 30)
(.u (.vs 21 4 (.vs 28 2 (.j (.tt ZB) .nil))))
(.call 1 (kSc) .nil 31
(.u (.vs 31 6 (.j (.tt ZC) .nil)))))))
(.call 1 (kSc) .nil 26
(.u (.vs 26 6 (.j (.tt ZC) .nil))))))
(.call 1 (kSc) .nil 21
(.u (.vs 21 6 (.j (.tt ZC) .nil)))))))
(.call 1 (kSc) .nil 16
(.u (.vs 16 6 (.j (.tt ZC) .nil)))))))
(.call 1 (kSc) .nil 7
(.u (.vs 7 6 (.j (.tt ZC) .nil))))))
def Uz:c_vnar.Ok ZF:=
 A4 ags (v_Sc []) cg (Aq qO<|Aq sM<|Aq oh<|Aq anN<|Aq ais<|Aq atW AR) func75<|dV fun a ha hp ρ g=>by
 simp only[A5,AP,A1,AT,ZE]at g;simp only[ags,c_vmay,c_vall,c_all,c_meet,c_kmeet,c_vcom,c_vnar,A5,AP,A1,Am,YI,ZE,-eq_self,bv,g];refine aM ?_;apply aI<;>intro c0;refine aM ?_;refine aM ?_;apply aI<;>intro c1;refine aM ?_;refine aM ?_;apply aI<;>intro c2;refine aM ?_;apply aI<;>intro c3;refine aM ?_;refine aM ?_;apply aI<;>intro c4
 ·(have q:=Rk (a:=a) c0 c1 c2 c3 c4;rw[q.1,q.2];try rfl)
 refine aM ?_
 ·(have q:=KD (a:=a) (.inr (.inr (.inr (.inr (c4)))));rw[q.1,q.2];try rfl)
 refine aM ?_
 ·(have q:=KD (a:=a) (.inr (.inr (.inr (.inl c3))));rw[q.1,q.2];try rfl)
 refine aM ?_
 ·(have q:=KD (a:=a) (.inr (.inr (.inl c2)));rw[q.1,q.2];try rfl)
 refine aM ?_
 ·(have q:=KD (a:=a) (.inr (.inl c1));rw[q.1,q.2];try rfl)
 refine aM ?_
 ·(have q:=KD (a:=a) (.inl c0);rw[q.1,q.2];try rfl)
def c_vnard:Cd:=⟨97,[.agg kSc],[.agg kSc],rd_Sc fun a _=>d_Sc (Ca a) [],T0⟩
def abl:Tr:=
(.call 0 (kSc++[.bool]) (.vs 0 6 .nil) 6
(.u (.vs 6 6 .nil)))
def oe:c_vnard.Ok ZF:=
 A4 abl (v_Sc []) cg (Aq Uz AR) func97<|dV fun a ha hp ρ g=>by
 simp only[A5,AT,ZE]at g;simp only[abl,c_vnar,c_vnard,A5,Am,YI,ZE,-eq_self,bv,g];refine aM ?_
 .rfl
def c_vtwoj:Cd:=⟨77,[.agg kSc,.agg kSc,.one (.fn 78),.one (.fn 79)],[.agg kSc],rd_Sc fun a=>rd_Sc fun b _=>d_Sc (jE a b) [],T0⟩
def abk:Tr:=
(.call 0 [.bool] (.vs 0 6 .nil) 12
(.br (.s 12)
(.call 0 [.bool] (.vs 6 6 .nil) 13
(.br (.s 13)
(.call 3 (kRg) (.vs 0 4 (.vs 6 4 .nil)) 14
(.call 4 (kKn) (.vs 4 2 (.vs 10 2 .nil)) 18
(.call 2 (kSc) (.vs 14 6 .nil) 20
(.u (.vs 20 6 .nil)))))
(.call 1 (kSc) .nil 14
(.u (.vs 14 6 .nil)))))
(.call 1 (kSc) .nil 13
(.u (.vs 13 6 .nil)))))
def aq9:c_vtwoj.Ok ZF:=
 A4 abk (v_Sc (v_Sc [])) cg (Aq qO<|Aq sM<|Aq oe<|Aq aug<|Aq ait AR) func77<|dV fun a ha=>dV fun b hb hp ρ g=>by
 simp only[A5,AP,A1,AT,ZE]at g;simp only[abk,c_vmay,c_vall,c_vnard,c_join,c_kjoin,c_vtwoj,A5,AP,A1,Am,YI,ZE,-eq_self,bv,g];refine aM ?_;apply aI<;>intro c0;refine aM ?_;apply aI<;>intro c1;refine aM ?_;refine aM ?_;refine aM ?_
 ·(rw[show jE a b=Ca (sc (jx a.r b.r) (ju a.k b.k))from ae ⟨c0,c1⟩];try rfl)
 refine aM ?_
 ·(rw[show jE a b=vall from aa (fun q=>by simp_all)];try rfl)
 refine aM ?_
 ·(rw[show jE a b=vall from aa (fun q=>by simp_all)];try rfl)
def c_vjoin:Cd:=⟨48,[.agg kSc,.agg kSc],[.agg kSc],rd_Sc fun a=>rd_Sc fun b _=>d_Sc (jE a b) [],T0⟩
def abm:Tr:=
(.call 0 (kSc) (.vs 0 12 .nil) 12
(.u (.vs 12 6 .nil)))
def ara:c_vjoin.Ok ZF:=
 A4 abm (v_Sc (v_Sc [])) cg (Aq aq9 AR) func48<|dV fun a ha=>dV fun b hb hp ρ g=>by
 simp only[A5,AT,ZE]at g;simp only[abm,c_vtwoj,c_vjoin,A5,Am,YI,ZE,-eq_self,bv,g];refine aM ?_
 .rfl
def c_vendu:Cd:=⟨82,[.one (.int .u64),.one (.int .u64),.one (.int .u64),.one .bool],[.one (.int .u64)],rdZ fun a=>rdZ fun b=>rdZ fun c=>rdB fun t _=>[.z (if(a==b)=ZC/\t=ZB then c else a)],T0⟩
def abo:Tr:=
(.br (.eq (.w 0) (.w 1))
(.u (.cons (.w 0) .nil))
(.br (.s 3)
(.u (.cons (.w 2) .nil))
(.u (.cons (.w 0) .nil))))
def arc:c_vendu.Ok ZF:=
 A4 abo [.int .u64,.int .u64,.int .u64,.bool] cg AR func82<|fun a ha b hb c hc t hp ρ g=>by
 simp only[AT,ZE]at g;simp only[abo,c_vendu,Am,YI,ZE,-eq_self,Sc.eta_r,Sc.eta_k,Sc.eta_2,g]
 .repeat' first|apply aI<;>intro c|exact X3
def c_vendi:Cd:=⟨83,[.one (.int .i64),.one (.int .i64),.one (.int .i64),.one .bool],[.one (.int .i64)],rdZ fun a=>rdZ fun b=>rdZ fun c=>rdB fun t _=>[.z (if(a==b)=ZC/\t=ZB then c else a)],T0⟩
def abp:Tr:=
(.br (.eq (.w 0) (.w 1))
(.u (.cons (.w 0) .nil))
(.br (.s 3)
(.u (.cons (.w 2) .nil))
(.u (.cons (.w 0) .nil))))
def ard:c_vendi.Ok ZF:=
 A4 abp [.int .i64,.int .i64,.int .i64,.bool] cg AR func83<|fun a ha b hb c hc t hp ρ g=>by
 simp only[AT,ZE]at g;simp only[abp,c_vendi,Am,YI,ZE,-eq_self,Sc.eta_r,Sc.eta_k,Sc.eta_2,g]
 .repeat' first|apply aI<;>intro c|exact X3
def c_vwid0:Cd:=⟨80,[.agg kRg,.agg kRg],[.agg kRg],rd_Rg fun a=>rd_Rg fun b _=>d_Rg (FM a b) [],T0⟩
def abi:Tr:=
(.call 0 (kRg) .nil 8
(.call 1 [.int .u64] (.cons (.w 0) (.cons (.w 4) (.cons (.w 8) (.j (.lt (.w 4) (.w 0)) .nil)))) 12
(.call 1 [.int .u64] (.cons (.w 1) (.cons (.w 5) (.cons (.w 9) (.j (.lt (.w 1) (.w 5)) .nil)))) 13
(.call 2 [.int .i64] (.cons (.w 2) (.cons (.w 6) (.cons (.w 10) (.j (.lt (.w 6) (.w 2)) .nil)))) 14
(.call 2 [.int .i64] (.cons (.w 3) (.cons (.w 7) (.cons (.w 11) (.j (.lt (.w 3) (.w 7)) .nil)))) 15
(.u (.vs 12 4 .nil)))))))
def aq7:c_vwid0.Ok ZF:=
 A4 abi (v_Rg (v_Rg [])) cg (Aq oh<|Aq arc<|Aq ard AR) func80<|dG fun a ha=>dG fun b hb hp ρ g=>by
 simp only[AP,AT,ZE]at g;simp only[abi,c_all,c_vendu,c_vendi,c_vwid0,AP,Am,YI,ZE,-eq_self,bv,g];refine aM ?_;refine aM ?_;refine aM ?_;refine aM ?_;refine aM ?_
 .rfl
def c_vtwow:Cd:=⟨77,[.agg kSc,.agg kSc,.one (.fn 80),.one (.fn 79)],[.agg kSc],rd_Sc fun a=>rd_Sc fun b _=>d_Sc (DC a b) [],T0⟩
def abj:Tr:=
(.call 0 [.bool] (.vs 0 6 .nil) 12
(.br (.s 12)
(.call 0 [.bool] (.vs 6 6 .nil) 13
(.br (.s 13)
(.call 3 (kRg) (.vs 0 4 (.vs 6 4 .nil)) 14
(.call 4 (kKn) (.vs 4 2 (.vs 10 2 .nil)) 18
(.call 2 (kSc) (.vs 14 6 .nil) 20
(.u (.vs 20 6 .nil)))))
(.call 1 (kSc) .nil 14
(.u (.vs 14 6 .nil)))))
(.call 1 (kSc) .nil 13
(.u (.vs 13 6 .nil)))))
def aq8:c_vtwow.Ok ZF:=
 A4 abj (v_Sc (v_Sc [])) cg (Aq qO<|Aq sM<|Aq oe<|Aq aq7<|Aq ait AR) func77<|dV fun a ha=>dV fun b hb hp ρ g=>by
 simp only[A5,AP,A1,AT,ZE]at g;simp only[abj,c_vmay,c_vall,c_vnard,c_vwid0,c_kjoin,c_vtwow,A5,AP,A1,Am,YI,ZE,-eq_self,bv,g];refine aM ?_;apply aI<;>intro c0;refine aM ?_;apply aI<;>intro c1;refine aM ?_;refine aM ?_;refine aM ?_
 ·(rw[show DC a b=Ca (sc (FM a.r b.r) (ju a.k b.k))from ae ⟨c0,c1⟩];try rfl)
 refine aM ?_
 ·(rw[show DC a b=vall from aa (fun q=>by simp_all)];try rfl)
 refine aM ?_
 ·(rw[show DC a b=vall from aa (fun q=>by simp_all)];try rfl)
def c_vwid:Cd:=⟨50,[.agg kSc,.agg kSc],[.agg kSc],rd_Sc fun a=>rd_Sc fun b _=>d_Sc (DC a b) [],T0⟩
def ago:Tr:=
(.call 0 (kSc) (.vs 0 12 .nil) 12
(.u (.vs 12 6 .nil)))
def atQ:c_vwid.Ok ZF:=
 A4 ago (v_Sc (v_Sc [])) cg (Aq aq8 AR) func50<|dV fun a ha=>dV fun b hb hp ρ g=>by
 simp only[A5,AT,ZE]at g;simp only[ago,c_vtwow,c_vwid,A5,Am,YI,ZE,-eq_self,bv,g];refine aM ?_
 .rfl
def c_vlow:Cd:=⟨100,[.agg kSc],[.agg kSc],rd_Sc fun a _=>d_Sc (Io a) [],T0⟩
def agu:Tr:=
(.call 0 (kRg) (.vs 0 4 .nil) 6
(.call 1 (kKn) (.vs 4 2 (.cons (.p 32) .nil)) 10
(.call 2 (kSc) (.vs 6 6 .nil) 12
(.u (.vs 12 6 .nil)))))
def atU:c_vlow.Ok ZF:=
 A4 agu (v_Sc []) cg (Aq aua<|Aq anQ<|Aq oe AR) func100<|dV fun a ha hp ρ g=>by
 simp only[A5,AP,A1,AT,ZE]at g;simp only[agu,c_low,c_kcut,c_vnard,c_vlow,A5,AP,A1,Am,YI,ZE,-eq_self,bv,g];refine aM ?_;refine aM ?_;refine aM ?_
 .rfl
def c_vhalf:Cd:=⟨101,[.one (.int .i8),.agg kSc,.agg kSc],[.agg kRg],rdZ fun op=>rd_Sc fun a=>rd_Sc fun b _=>d_Rg (fd op a b) [],T0⟩
def US:Tr:=(.call 2 [.int .u64,.bool] (.vs 7 6 .nil) 21
(.br (.s 22)
(.call 3 (kSc) (.cons (.f .and .u64 (.w 21) (.p 31)) .nil) 23
(.call 4 (kRg) (.vs 0 5 (.vs 23 4 .nil)) 29
(.br (.lt (.w 30) (.p 4294967296))
(.u (.vs 29 4 .nil))
(.u (.vs 17 4 .nil)))))
(.u (.vs 17 4 .nil))))
def abn:Tr:=
(.call 0 (kRg) .nil 13
(.call 1 (kRg) (.vs 13 4 .nil) 17
(.br (.eq (.w 0) (.p 8))
(.u (.vs 17 4 .nil))
(.br (.eq (.w 0) (.p 12))
(.u (.vs 17 4 .nil))
(.br (.eq (.w 0) (.p 6))
 US
(.br (.eq (.w 0) (.p 7))
 US
(.call 4 (kRg) (.vs 0 5 (.vs 7 4 .nil)) 21
(.br (.lt (.w 22) (.p 4294967296))
(.u (.vs 21 4 .nil))
(.u (.vs 17 4 .nil))))))))))
def arb:c_vhalf.Ok ZF:=
 A4 abn (.int .i8::v_Sc (v_Sc [])) cg (Aq oh<|Aq aua<|Aq aim<|Aq R3<|Aq QQ AR) func101<|fun op Ab=>dV fun a ha=>dV fun b hb hp ρ g=>by
 simp only[A5,AP,AT,ZE]at g;simp only[abn,US,c_all,c_low,c_vsingle,c_vone,c_do,c_vhalf,A5,AP,Am,YI,ZE,-eq_self,bv,g];refine aM ?_;refine aM ?_;apply aI<;>intro c0
 ·(obtain rfl:=Bd c0;rw[show fd 8 a b=CZ ball from by unfold fd;simp];try rfl)
 apply aI<;>intro c1
 ·(obtain rfl:=Bd c1;rw[show fd 12 a b=CZ ball from by unfold fd;simp];try rfl)
 apply aI<;>intro c2;refine aM ?_;apply aI<;>intro c3;refine aM ?_;refine aM ?_;apply aI<;>intro c4
 ·(obtain rfl:=Bd c2;have h4:=Ae c4;rw[show fd 6 a b=DT 6 a.r (B7 (Ac .and .u64 (jC b) 31)).r from(by unfold fd;rw[aa Os,ae Os,ae c3];exact ae h4)];try rfl)
 ·(obtain rfl:=Bd c2;have h4:=Af c4;rw[show fd 6 a b=CZ ball from(by unfold fd;rw[aa Os,ae Os,ae c3];exact aa h4)];try rfl)
 ·(obtain rfl:=Bd c2;rw[show fd 6 a b=CZ ball from by unfold fd;simp[c3]];try rfl)
 apply aI<;>intro c5;refine aM ?_;apply aI<;>intro c6;refine aM ?_;refine aM ?_;apply aI<;>intro c7
 ·(obtain rfl:=Bd c5;have h4:=Ae c7;rw[show fd 7 a b=DT 7 a.r (B7 (Ac .and .u64 (jC b) 31)).r from(by unfold fd;rw[aa Os,ae Os,ae c6];exact ae h4)];try rfl)
 ·(obtain rfl:=Bd c5;have h4:=Af c7;rw[show fd 7 a b=CZ ball from(by unfold fd;rw[aa Os,ae Os,ae c6];exact aa h4)];try rfl)
 ·(obtain rfl:=Bd c5;rw[show fd 7 a b=CZ ball from by unfold fd;simp[c6]];try rfl)
 refine aM ?_;apply aI<;>intro c8
 ·(have n0:=CR c0;have n1:=CR c1;have n2:=CR c2;have n3:=CR c5;have h4:=Ae c8;rw[show fd op a b=DT op a.r b.r from(by unfold fd;rw[aa Fn,aa Fn];exact ae h4)];try rfl)
 ·(have n0:=CR c0;have n1:=CR c1;have n2:=CR c2;have n3:=CR c5;have h4:=Af c8;rw[show fd op a b=CZ ball from(by unfold fd;rw[aa Fn,aa Fn];exact aa h4)];try rfl)
def c_vbel4:Cd:=⟨67,[.one (.p .i64 32)],[.agg kSc],fun _=>d_Sc (Hz 4294967295) [],T0⟩
def abq:Tr:=
(.call 0 (kRg) .nil 0
(.call 1 (kSc) (.cons (.w 0) (.cons (.p 4294967295) (.vs 2 2 (.cons (.p 0) (.cons (.p 4294967295) .nil))))) 4
(.u (.vs 4 6 .nil))))
def arf:c_vbel4.Ok ZF:=
 A4 abq [] cg (Aq oh<|Aq oe AR) func67<|fun hp ρ g=>by
 simp only[abq,c_all,c_vnard,c_vbel4,A5,AP,Am,YI,ZE,-eq_self,bv];refine aM ?_;refine aM ?_
 .rfl
def c_vby4:Cd:=⟨37,[.one (.p .i64 4)],[.agg kSc],fun _=>d_Sc (Hz 4294967295) [],T0⟩
def agx:Tr:=
(.call 0 (kSc) .nil 0
(.u (.vs 0 6 .nil)))
def atY:c_vby4.Ok ZF:=
 A4 agx [] cg (Aq arf AR) func37<|fun hp ρ g=>by
 simp only[agx,c_vbel4,c_vby4,A5,Am,YI,ZE,-eq_self,bv];refine aM ?_
 .rfl
def aS{q:Prop}(k:q2)(h:p->q=q2:=by intro e;(try simp only[e,bv,-eq_self]);rfl):p->q:=fun e=>(h e).symm▸k
def afj:List (Nat×TI):=[(39,hZ),
 (43,hJ),
 (59,oQ),
 (164,⟨ZC,1,[.nf],[],ZD,ZD,ZC,ZC,ZD,8,ZB,ZD,ZC,0⟩),
 (228,⟨ZB,13,[.nf,.nf,.nf,.nf,.nf,.nf,.nf,.nf,.nf,.nf,.nf,.nf,.nf],[],ZA (13,164),ZD,ZC,ZC,ZD,104,ZC,ZD,ZC,0⟩)]
def ef:∀t i,(t,i)∈afj->TIok ZF t i:=bK Ch Ch (by kernel_rfl)
def c_kcarr:Cd:=⟨174,[.one (.int .u64),.one (.int .u64),.agg kKn,.agg kKn],[.agg kKn],rdZ fun v=>rdZ fun x=>rd_Kn fun a=>rd_Kn fun b _=>d_Kn (jW v (bits .or .u64 (bits .or .u64 (bits .xor .u64 v x) a.m) b.m)) [],T0⟩
def abF:Tr:=
(.call 0 (kKn) (.cons (.w 0) (.cons (.f .or .u64 (.f .or .u64 (.f .xor .u64 (.w 0) (.w 1)) (.w 3)) (.w 5)) .nil)) 6
(.u (.vs 6 2 .nil)))
def ars:c_kcarr.Ok ZF:=
 A4 abF (.int .u64::.int .u64::v_Kn (v_Kn [])) ef (Aq og AR) func174<|fun v hv x hx=>dh fun a ha=>dh fun b hb hp ρ g=>by
 simp only[A1,AT,ZE]at g;simp only[abF,c_kmask,c_kcarr,A1,Am,YI,ZE,-eq_self,bv,g];refine aS ?_
 .rfl
def c_kadd:Cd:=⟨138,[.agg kKn,.agg kKn],[.agg kKn],rd_Kn fun a=>rd_Kn fun b _=>d_Kn (Jd a b) [],T0⟩
def agY:Tr:=
(.call 0 (kKn) (.cons (.f .add .u64 (.w 0) (.w 2)) (.cons (.f .add .u64 (.f .add .u64 (.w 1) (.w 3)) (.f .add .u64 (.w 0) (.w 2))) (.vs 0 4 .nil))) 4
(.u (.vs 4 2 .nil)))
def auf:c_kadd.Ok ZF:=
 A4 agY (v_Kn (v_Kn [])) ef (Aq ars AR) func138<|dh fun a ha=>dh fun b hb hp ρ g=>by
 simp only[A1,AT,ZE]at g;simp only[agY,c_kcarr,c_kadd,A1,Am,YI,ZE,-eq_self,bv,g];refine aS ?_
 ·(unfold Jd;rfl)
def c_ksub:Cd:=⟨139,[.agg kKn,.agg kKn],[.agg kKn],rd_Kn fun a=>rd_Kn fun b _=>d_Kn (FW a b) [],T0⟩
def agP:Tr:=
(.call 0 (kKn) (.cons (.f .sub .u64 (.w 0) (.w 2)) (.cons (.f .or .u64 (.f .or .u64 (.f .xor .u64 (.f .add .u64 (.f .sub .u64 (.w 0) (.w 2)) (.w 1)) (.f .sub .u64 (.f .sub .u64 (.w 0) (.w 2)) (.w 3))) (.w 1)) (.w 3)) .nil)) 4
(.u (.vs 4 2 .nil)))
def anP:c_ksub.Ok ZF:=
 A4 agP (v_Kn (v_Kn [])) ef (Aq og AR) func139<|dh fun a ha=>dh fun b hb hp ρ g=>by
 simp only[A1,AT,ZE]at g;simp only[agP,c_kmask,c_ksub,A1,Am,YI,ZE,-eq_self,bv,g];refine aS ?_
 ·(unfold FW;rfl)
def c_kneg:Cd:=⟨142,[.agg kKn,.agg kKn],[.agg kKn],rd_Kn fun a=>rd_Kn fun b _=>d_Kn (FW (Es 0) a) [],T0⟩
def agS:Tr:=
(.call 0 (kKn) (.cons (.p 0) .nil) 4
(.call 1 (kKn) (.vs 4 2 (.vs 0 2 .nil)) 6
(.u (.vs 6 2 .nil))))
def aud:c_kneg.Ok ZF:=
 A4 agS (v_Kn (v_Kn [])) ef (Aq UB<|Aq anP AR) func142<|dh fun a ha=>dh fun b hb hp ρ g=>by
 simp only[A1,AT,ZE]at g;simp only[agS,c_kone,c_ksub,c_kneg,A1,Am,YI,ZE,-eq_self,bv,g];refine aS ?_;refine aS ?_
 .rfl
def c_kand:Cd:=⟨141,[.agg kKn,.agg kKn],[.agg kKn],rd_Kn fun a=>rd_Kn fun b _=>d_Kn (NQ a b) [],T0⟩
def agW:Tr:=
(.u (.cons (.f .and .u64 (.w 0) (.w 2)) (.cons (.f .andNot .u64 (.f .and .u64 (.f .or .u64 (.w 0) (.w 1)) (.f .or .u64 (.w 2) (.w 3))) (.f .and .u64 (.w 0) (.w 2))) .nil)))
def aue:c_kand.Ok ZF:=
 A4 agW (v_Kn (v_Kn [])) ef AR func141<|dh fun a ha=>dh fun b hb hp ρ g=>by
 simp only[A1,AT,ZE]at g;simp only[agW,c_kand,A1,Am,YI,ZE,-eq_self,Kn.eta,Sc.eta_r,Sc.eta_k,Sc.eta_2,g]
 .rfl
def c_kor:Cd:=⟨140,[.agg kKn,.agg kKn],[.agg kKn],rd_Kn fun a=>rd_Kn fun b _=>d_Kn (kor a b) [],T0⟩
def anc:Tr:=
(.u (.cons (.f .or .u64 (.w 0) (.w 2)) (.cons (.f .andNot .u64 (.f .or .u64 (.w 1) (.w 3)) (.f .or .u64 (.w 0) (.w 2))) .nil)))
def avS:c_kor.Ok ZF:=
 A4 anc (v_Kn (v_Kn [])) ef AR func140<|dh fun a ha=>dh fun b hb hp ρ g=>by
 simp only[A1,AT,ZE]at g;simp only[anc,c_kor,A1,Am,YI,ZE,-eq_self,Kn.eta,Sc.eta_r,Sc.eta_k,Sc.eta_2,g]
 .rfl
def c_kxor:Cd:=⟨143,[.agg kKn,.agg kKn],[.agg kKn],rd_Kn fun a=>rd_Kn fun b _=>d_Kn (Lj a b) [],T0⟩
def agO:Tr:=
(.call 0 (kKn) (.cons (.f .xor .u64 (.w 0) (.w 2)) (.cons (.f .or .u64 (.w 1) (.w 3)) .nil)) 4
(.u (.vs 4 2 .nil)))
def aub:c_kxor.Ok ZF:=
 A4 agO (v_Kn (v_Kn [])) ef (Aq og AR) func143<|dh fun a ha=>dh fun b hb hp ρ g=>by
 simp only[A1,AT,ZE]at g;simp only[agO,c_kmask,c_kxor,A1,Am,YI,ZE,-eq_self,bv,g];refine aS ?_
 .rfl
def c_ksec:Cd:=⟨144,[.agg kKn,.agg kKn],[.agg kKn],rd_Kn fun a=>rd_Kn fun b _=>d_Kn b [],T0⟩
def agQ:Tr:=
(.u (.vs 2 2 .nil))
def auc:c_ksec.Ok ZF:=
 A4 agQ (v_Kn (v_Kn [])) ef AR func144<|dh fun a ha=>dh fun b hb hp ρ g=>by
 simp only[A1,AT,ZE]at g;simp only[agQ,c_ksec,A1,Am,YI,ZE,-eq_self,Kn.eta,Sc.eta_r,Sc.eta_k,Sc.eta_2,g]
 .rfl
def c_kdo:Cd:=⟨99,[.one (.int .i8),.one (.int .i8),.agg kKn,.agg kKn],[.agg kKn],rdZ fun op=>rdZ fun l=>rd_Kn fun a=>rd_Kn fun b _=>d_Kn (IJ op l a b) [],T0⟩
def vE:Tr:=(.call 2 (kKn) (.vs 13 2 (.cons (.w 1) .nil)) 15
(.u (.vs 15 2 .nil)))
def Ph:Tr:=(.call 2 (kKn) (.vs 11 2 (.cons (.w 1) .nil)) 13
(.u (.vs 13 2 .nil)))
def UR:E:=(.cons (.f .and .u64 (.w 9) (.f .sub .u64 (.F .u64 (.w 1)) (.p 1))) .nil)
def Sb:Tr:=(.br (.eq (.f .and .u64 (.w 10) (.f .sub .u64 (.F .u64 (.w 1)) (.p 1))) (.p 0))
(.call 3 [.int .u64,.int .i64] (.vs 0 2 (.cons (.w 7) UR)) 13
(.call 3 [.int .u64,.int .i64] (.vs 0 2 (.cons (.w 8) UR)) 15
(.call 5 (kKn) (.cons (.w 13) (.cons (.w 15) .nil)) 17
(.call 2 (kKn) (.vs 17 2 (.cons (.w 1) .nil)) 19
(.u (.vs 19 2 .nil))))))
 Ph)
def Uc:Tr:=
(.cut 0 6 [.bool]
(.call 0 [.bool] (.vs 2 2 .nil) 6
(.br (.s 6)
(.call 0 [.bool] (.vs 4 2 .nil) 7
(.br (.s 7)
(.br (.lt (.w 0) (.p 0))
(.next 0 (.j (.tt ZB) .nil))
(.br (.lt (.p 12) (.w 0))
(.next 0 (.j (.tt ZB) .nil))
(.br (.eq (.w 1) (.p 32))
(.next 0 (.j (.tt ZC) .nil))
(.next 0 (.j (.not (.eq (.w 1) (.p 64))) .nil)))))
(.next 0 (.j (.tt ZB) .nil))))
(.next 0 (.j (.tt ZB) .nil))))
(.br (.s 6)
(.call 1 (kKn) .nil 7
(.u (.vs 7 2 .nil)))
(.call 2 (kKn) (.vs 2 2 (.cons (.w 1) .nil)) 7
(.call 2 (kKn) (.vs 4 2 (.cons (.w 1) .nil)) 9
(.br (.eq (.f .or .u64 (.w 8) (.w 10)) (.p 0))
(.call 3 [.int .u64,.int .i64] (.vs 0 2 (.cons (.w 7) (.cons (.w 9) .nil))) 11
(.call 4 (kKn) (.cons (.w 11) .nil) 13
(.u (.vs 13 2 .nil))))
(.call 1 (kKn) .nil 11
(.br (.eq (.w 0) (.p 6))
 Sb
(.br (.eq (.w 0) (.p 7))
 Sb
(.br (.eq (.w 0) (.p 12))
 Sb
(.br (.eq (.w 0) (.p 0))
(.call 6 (kKn) (.vs 7 4 .nil) 13
 vE)
(.br (.eq (.w 0) (.p 1))
(.call 7 (kKn) (.vs 7 4 .nil) 13
 vE)
(.br (.eq (.w 0) (.p 2))
 Ph
(.br (.eq (.w 0) (.p 3))
 Ph
(.br (.eq (.w 0) (.p 4))
(.call 8 (kKn) (.vs 7 4 .nil) 13
 vE)
(.br (.eq (.w 0) (.p 5))
(.call 9 (kKn) (.vs 7 4 .nil) 13
 vE)
(.br (.eq (.w 0) (.p 8))
(.call 10 (kKn) (.vs 7 4 .nil) 13
 vE)
(.br (.eq (.w 0) (.p 9))
 Ph
(.br (.eq (.w 0) (.p 10))
(.call 11 (kKn) (.vs 7 4 .nil) 13
 vE)
(.br (.eq (.w 0) (.p 11))
(.call 12 (kKn) (.vs 7 4 .nil) 13
 vE)
.panic)))))))))))))))))))
def as4:cG afj (FH 0 [c_kmay,c_kall,c_kcut,c_bits,c_kone,c_kmask,c_kadd,c_ksub,c_kor,c_kand,c_kneg,c_kxor,c_ksec]) [] [] [(2,[.tmpB 42]++Eb [(19,23)])] 200 f99 c_kdo.a c_kdo.r (tp c_kdo.r) (.int .i8::.int .i8::v_Kn (v_Kn [])) Uc:=FJ (by kernel_rfl)
def avT:c_kdo.Ok ZF:=
 GJ Uc (.int .i8::.int .i8::v_Kn (v_Kn [])) ef (Aq xN<|Aq xO<|Aq anQ<|Aq anR<|Aq UB<|Aq og<|Aq auf<|Aq anP<|Aq avS<|Aq aue<|Aq aud<|Aq aub<|Aq auc AR) func99 FD as4<|fun op Ab l hl=>dh fun a ha=>dh fun b hb hp ρ g=>by
 have As:=g;simp only[A1,AT,ZE]at g;simp only[Uc,Sb,UR,Ph,vE,c_kmay,c_kall,c_kcut,c_bits,c_kone,c_kmask,c_kadd,c_ksub,c_kor,c_kand,c_kneg,c_kxor,c_ksec,c_kdo,A1,Am,YI,ZE,-eq_self,bv,g];refine⟨fun ds=>ds=[.z (Ay (!ee op l a b))],?_,?_⟩;refine aS ?_;apply aI<;>intro c0;refine aS ?_;apply aI<;>intro c1;apply aI<;>intro c2
 .show[Dt.z (Ay ZB)]=[Dt.z (Ay (!ee op l a b))];rw[avJ c2];rfl
 apply aI<;>intro c3
 .show[Dt.z (Ay ZB)]=[Dt.z (Ay (!ee op l a b))];rw[avK c3];rfl
 apply aI<;>intro c4
 .show[Dt.z (Ay ZC)]=[Dt.z (Ay (!ee op l a b))];rw[(atL c0 c1 c2 c3 (by rw[Bd c4];rfl)).1];rfl
 .show[Dt.z (Ay (!(l==64)))]=[Dt.z (Ay (!ee op l a b))];cases h:(l==64);rw[kd_w c4 h];rw[(atL c0 c1 c2 c3 (by rw[Bd h];rfl)).1]
 .show[Dt.z (Ay ZB)]=[Dt.z (Ay (!ee op l a b))];rw[kd_b c1];rfl
 .show[Dt.z (Ay ZB)]=[Dt.z (Ay (!ee op l a b))];rw[kd_a c0];rfl
 intro ρ1 A7 _ Bm;have g6:ρ1.b 6 = !ee op l a b:=oq (Dt.z.inj (List.cons.inj Bm).1);have QT:=And.intro ((A7 0 Os).1.symm.trans g.1) (And.intro ((A7 1 Os).1.symm.trans g.2.1) (And.intro ((A7 2 Os).1.symm.trans g.2.2.1) (And.intro ((A7 3 Os).1.symm.trans g.2.2.2.1) (And.intro ((A7 4 Os).1.symm.trans g.2.2.2.2.1) ((A7 5 Os).1.symm.trans g.2.2.2.2.2)))));simp only[QT,g6,Kn.eta,-eq_self];apply aI<;>intro c5;refine aS ?_
 .exact dX (atM (by simpa using c5))
 obtain⟨hg,ho,hl⟩:=avI c5;refine aS ?_;refine aS ?_;apply aI<;>intro c6;refine aS ?_;refine aS ?_
 .exact dX (atK hg c6)
 refine aS ?_;apply aI<;>intro c7;apply aI<;>intro c8;refine aS ?_;refine aS ?_;refine aS ?_;refine aS ?_
 ·(obtain rfl:=Bd c7;rcases hl with rfl|rfl<;>exact dX (kP hg c6 (V0 Os c8)))
 refine aS ?_
 ·(obtain rfl:=Bd c7;rcases hl with rfl|rfl<;>exact dX (kP hg c6 (V1 Os c8)))
 apply aI<;>intro c9;apply aI<;>intro CA;refine aS ?_;refine aS ?_;refine aS ?_;refine aS ?_
 ·(obtain rfl:=Bd c9;rcases hl with rfl|rfl<;>exact dX (kP hg c6 (V0 Os CA)))
 refine aS ?_
 ·(obtain rfl:=Bd c9;rcases hl with rfl|rfl<;>exact dX (kP hg c6 (V1 Os CA)))
 apply aI<;>intro DD;apply aI<;>intro Cp;refine aS ?_;refine aS ?_;refine aS ?_;refine aS ?_
 ·(obtain rfl:=Bd DD;rcases hl with rfl|rfl<;>exact dX (kP hg c6 (V0 Os Cp)))
 refine aS ?_
 ·(obtain rfl:=Bd DD;rcases hl with rfl|rfl<;>exact dX (kP hg c6 (V1 Os Cp)))
 apply aI<;>intro C9;refine aS ?_;refine aS ?_
 ·(obtain rfl:=Bd C9;exact dX (kP hg c6 rfl))
 apply aI<;>intro DE;refine aS ?_;refine aS ?_
 ·(obtain rfl:=Bd DE;exact dX (kP hg c6 rfl))
 apply aI<;>intro DI;refine aS ?_
 ·(obtain rfl:=Bd DI;exact dX (kP hg c6 rfl))
 apply aI<;>intro Ew;refine aS ?_
 ·(obtain rfl:=Bd Ew;exact dX (kP hg c6 rfl))
 apply aI<;>intro Ec;refine aS ?_;refine aS ?_
 ·(obtain rfl:=Bd Ec;exact dX (kP hg c6 rfl))
 apply aI<;>intro DJ;refine aS ?_;refine aS ?_
 ·(obtain rfl:=Bd DJ;exact dX (kP hg c6 rfl))
 apply aI<;>intro D7;refine aS ?_;refine aS ?_
 ·(obtain rfl:=Bd D7;exact dX (kP hg c6 rfl))
 apply aI<;>intro FN;refine aS ?_
 ·(obtain rfl:=Bd FN;exact dX (kP hg c6 rfl))
 apply aI<;>intro GU;refine aS ?_;refine aS ?_
 ·(obtain rfl:=Bd GU;exact dX (kP hg c6 rfl))
 apply aI<;>intro It;refine aS ?_;refine aS ?_
 ·(obtain rfl:=Bd It;exact dX (kP hg c6 rfl))
 ·(have HU:=CR c7;have Gr:=CR c9;have HB:=CR DD;have h13:=CR C9;have h14:=CR DE;have h15:=CR DI;have OR:=CR Ew;have h17:=CR Ec;have h18:=CR DJ;have h19:=CR D7;have h20:=CR FN;have h21:=CR GU;have h22:=CR It;omega)
def cX{q:Prop}(k:q2)(h:p->q=q2:=by intro e;(try simp only[e,bv,-eq_self]);rfl):p->q:=fun e=>(h e).symm▸k
def apD:List (Nat×TI):=[(2,DA),
 (33,OJ),
 (39,hZ),
 (43,hJ),
 (57,lm),
 (59,oQ),
 (61,SE)]
def vO:∀t i,(t,i)∈apD->TIok ZF t i:=bK Ch Ch (by kernel_rfl)
def c_bits0:Cd:=⟨96,[.one (.int .i8),.one (.int .i8),.one (.p .u64 0),.one (.p .u64 0)],[.one (.int .u64),.one (.int .i64)],rdZ fun op=>rdZ fun l _=>[.z (if BT op l=ZB then BI op l 0 0 else 0),.z (if BT op l=ZB then 0 else 2)],T0⟩
def ak2(op:Int)(Ab:Aj .i8 op=ZB)(l:Int)(hl:Aj .i8 l=ZB):(∀w,Calls ZF 96 #[.int .i8 op,.int .i8 l,.int .u64 0,.int .u64 0] w fun e w'=>e=.returned (.tuple #[.int .u64 (if BT op l=ZB then BI op l 0 0 else 0),.int .i64 (if BT op l=ZB then 0 else 2)])/\Ext w w')/\iK (.tuple #[.int .u64 (if BT op l=ZB then BI op l 0 0 else 0),.int .i64 (if BT op l=ZB then 0 else 2)])=ZB:=by exact agl op Ab l hl 0 Os 0 Os
def arw:c_bits0.Ok ZF:=fun hF hP=>by
 refine SmOk.pure (s:=c_bits0.m _) hF rfl rfl fun xs vals w h=> ?_;obtain⟨_,_,_,rfl,⟨x0,rfl,rfl,Dr⟩,h⟩:=h;obtain⟨_,_,_,rfl,⟨x1,rfl,rfl,DY⟩,h⟩:=h;obtain⟨_,_,_,rfl,⟨rfl,rfl⟩,h⟩:=h;obtain⟨_,_,_,rfl,⟨rfl,rfl⟩,h⟩:=h;obtain⟨rfl,rfl⟩:=h;have q:=ak2 x0 Dr x1 DY;refine⟨_,.inr ⟨ez func96 (by kernel_rfl) (by kernel_rfl) _ w,q.1 w⟩,?_,fun ρ v0 nid j he=> ?_⟩
 .have q2:=q.2;simp[iK,gP,gY]at q2;simp[c_bits0,Cd.m,tp,rdZ,rdB,rdL,ZO,YW,Sh.cks,YO,YN,ZM,b2i_one,ib,q2]
 .simp only[c_bits0,Cd.m,tp,rdZ,rdB,rdL,ZO,YW,Sh.cks,YO,YN,ZM,b2i_one,eqs,dI,dB,cH,lu,be,Nat.add_zero,ZE,and_true]at he;simp[c_bits0,Cd.m,tp,rdZ,rdB,rdL,ZO,YW,Sh.cks,YO,YN,ZM,b2i_one,gN,bM,aL,V.den,C.den,Ad,Bt,ce,E.I,E.B,he]
def c_vdo:Cd:=⟨64,[.one (.int .i8),.one (.int .i8),.agg kSc,.agg kSc],[.agg kSc],rdZ fun op=>rdZ fun l=>rd_Sc fun a=>rd_Sc fun b _=>d_Sc (G4 op l a b) [],T0⟩
def am3:Tr:=
(.call 0 [.int .u64,.int .i64] (.vs 0 2 .nil) 14
(.br (.eq (.w 15) (.p 0))
(.call 1 [.bool] (.vs 2 6 .nil) 16
(.br (.s 16)
(.call 1 [.bool] (.vs 8 6 .nil) 17
(.br (.s 17)
(.br (.eq (.w 1) (.p 64))
(.call 3 (kRg) (.cons (.w 0) (.vs 2 4 (.vs 8 4 .nil))) 18
(.call 4 (kKn) (.vs 0 2 (.vs 6 2 (.vs 12 2 .nil))) 22
(.call 5 (kSc) (.vs 18 6 .nil) 24
(.u (.vs 24 6 .nil)))))
(.call 6 (kSc) (.vs 2 6 .nil) 18
(.call 6 (kSc) (.vs 8 6 .nil) 24
(.call 7 (kRg) (.cons (.w 0) (.vs 18 12 .nil)) 30
(.call 4 (kKn) (.vs 0 2 (.vs 22 2 (.vs 28 2 .nil))) 34
(.call 8 (kSc++[.bool]) (.vs 30 6 .nil) 36
(.br (.s 42)
(.u (.vs 36 6 .nil))
(.call 9 (kSc) .nil 43
(.u (.vs 43 6 .nil))))))))))
(.call 2 (kSc) .nil 18
(.u (.vs 18 6 .nil)))))
(.call 2 (kSc) .nil 17
(.u (.vs 17 6 .nil)))))
(.call 2 (kSc) .nil 16
(.u (.vs 16 6 .nil)))))
def avN:c_vdo.Ok ZF:=
 A4 am3 (.int .i8::.int .i8::v_Sc (v_Sc [])) vO (Aq arw<|Aq qO<|Aq sM<|Aq QQ<|Aq avT<|Aq oe<|Aq atU<|Aq arb<|Aq Uz<|Aq atY AR) func64<|fun op Ab l hl=>dV fun a ha=>dV fun b hb hp ρ g=>by
 simp only[A5,AP,A1,AT,ZE]at g;simp only[am3,c_bits0,c_vmay,c_vall,c_do,c_kdo,c_vnard,c_vlow,c_vhalf,c_vnar,c_vby4,c_vdo,A5,AP,A1,Am,YI,ZE,-eq_self,bv,g];refine cX ?_;apply aI<;>intro c0;refine cX ?_;apply aI<;>intro c1;refine cX ?_;apply aI<;>intro c2;apply aI<;>intro c3;refine cX ?_;refine cX ?_;refine cX ?_
 ·(obtain rfl:=Bd c3;have hk:=V3 c0;rw[show G4 op 64 a b=Ca (sc (DT op a.r b.r) (IJ op 64 a.k b.k))from by unfold G4;simp[hk,c1,c2]];try rfl)
 refine cX ?_;refine cX ?_;refine cX ?_;refine cX ?_;refine cX ?_;apply aI<;>intro c4
 ·(have n:=CR c3;have hk:=V3 c0;have c5:C6 (Pa op l a b)=ZB:=c4;rw[show G4 op l a b=Ca (Pa op l a b)from by unfold G4;simp[hk,c1,c2,n,c5]];try rfl)
 refine cX ?_
 ·(have n:=CR c3;have hk:=V3 c0;have c5:C6 (Pa op l a b)=ZC:=c4;rw[show G4 op l a b=Hz 4294967295 from by unfold G4;simp[hk,c1,c2,n,c5]];try rfl)
 refine cX ?_
 ·(rw[show G4 op l a b=vall from by unfold G4;simp[c2]];try rfl)
 refine cX ?_
 ·(rw[show G4 op l a b=vall from by unfold G4;simp[c1]];try rfl)
 refine cX ?_
 ·(have hk:=atx c0;rw[show G4 op l a b=vall from by unfold G4;simp[hk]];try rfl)
def c_vgiv:Cd:=⟨44,[.one (.int .i8),.agg kSc,.agg kSc],[.agg kSc,.one .bool],rdZ fun cc=>rd_Sc fun a=>rd_Sc fun b _=>d_Sc (Ev cc a b) [.z (Ay (DB cc a b))],T0⟩
def agv:Tr:=
(.call 0 [.bool] (.vs 1 6 .nil) 13
(.br (.s 13)
(.call 0 [.bool] (.vs 7 6 .nil) 14
(.br (.s 14)
(.call 2 (kRg++[.bool]) (.vs 0 5 (.vs 7 4 .nil)) 15
(.br (.s 19)
(.br (.eq (.w 0) (.p 0))
(.call 3 (kKn++[.bool]) (.vs 5 2 (.vs 11 2 .nil)) 20
(.br (.s 22)
(.call 4 (kSc++[.bool]) (.vs 15 4 (.vs 20 2 .nil)) 23
(.u (.vs 23 6 (.j (.s 29) .nil))))
(.call 1 (kSc) .nil 23
(.u (.vs 23 6 (.j (.tt ZC) .nil))))))
(.call 4 (kSc++[.bool]) (.vs 15 4 (.vs 5 2 .nil)) 20
(.u (.vs 20 6 (.j (.s 26) .nil)))))
(.call 1 (kSc) .nil 20
(.u (.vs 20 6 (.j (.tt ZC) .nil))))))
(.call 1 (kSc) .nil 15
(.u (.vs 15 6 (.j (.tt ZC) .nil))))))
(.call 1 (kSc) .nil 14
(.u (.vs 14 6 (.j (.tt ZC) .nil))))))
def atV:c_vgiv.Ok ZF:=
 A4 agv (.int .i8::v_Sc (v_Sc [])) vO (Aq qO<|Aq sM<|Aq arv<|Aq ais<|Aq Uz AR) func44<|fun cc Cq=>dV fun a ha=>dV fun b hb hp ρ g=>by
 simp only[A5,AP,A1,AT,ZE]at g;simp only[agv,c_vmay,c_vall,c_given,c_kmeet,c_vnar,c_vgiv,A5,AP,A1,Am,YI,ZE,-eq_self,bv,g];refine cX ?_;apply aI<;>intro c0;refine cX ?_;apply aI<;>intro c1;refine cX ?_;apply aI<;>intro c2;apply aI<;>intro c3;refine cX ?_;apply aI<;>intro c4;refine cX ?_
 ·(have q:=Rh c0 c1 c2 c3 c4;rw[q.1,q.2];try rfl)
 refine cX ?_
 ·(have q:=Ly (cc:=cc) (a:=a) (b:=b) (.inr (.inr (.inr ⟨c3,c4⟩)));rw[q.1,q.2];try rfl)
 refine cX ?_
 ·(have q:=Ri c0 c1 c2 c3;rw[q.1,q.2];try rfl)
 refine cX ?_
 ·(have q:=Ly (cc:=cc) (a:=a) (b:=b) (.inr (.inr (.inl c2)));rw[q.1,q.2];try rfl)
 refine cX ?_
 ·(have q:=Ly (cc:=cc) (a:=a) (b:=b) (.inr (.inl c1));rw[q.1,q.2];try rfl)
 refine cX ?_
 ·(have q:=Ly (cc:=cc) (a:=a) (b:=b) (.inl c0);rw[q.1,q.2];try rfl)
def Ty.eta(a:Ty):(⟨a.k,a.ul,a.uh,a.sl,a.sh,a.v,a.m,a.lo,a.hi⟩:Ty)=a:=rfl
def rd_Ty(k:Ty->List Dt->List Dt):List Dt->List Dt
 |.z z0::.z z1::.z z2::.z z3::.z z4::.z z5::.z z6::.z z7::.z z8::r=>k ⟨z0,z1,z2,z3,z4,z5,z6,z7,z8⟩ r
 |_=>[]
def Ty.ok(a:Ty):Prop:=Aj .i8 a.k=ZB/\Aj .u64 a.ul=ZB/\Aj .u64 a.uh=ZB/\Aj .i64 a.sl=ZB/\Aj .i64 a.sh=ZB/\Aj .u64 a.v=ZB/\Aj .u64 a.m=ZB/\Aj .i64 a.lo=ZB/\Aj .i64 a.hi=ZB
def kTy:List CK:=[.int .i8,.int .u64,.int .u64,.int .i64,.int .i64,.int .u64,.int .u64,.int .i64,.int .i64]
def v_Ty(t:List VK):List VK:=.int .i8::.int .u64::.int .u64::.int .i64::.int .i64::.int .u64::.int .u64::.int .i64::.int .i64::t
def d_Ty(a:Ty)(t:List Dt):List Dt:=.z a.k::.z a.ul::.z a.uh::.z a.sl::.z a.sh::.z a.v::.z a.m::.z a.lo::.z a.hi::t
def bP{l:List VK}{p:List Dt->Prop}(h:∀a:Ty,Ty.ok a->ba l fun r=>p (d_Ty a r)):ba (v_Ty l) p:=fun x0 Dr x1 DY x2 HT x3 Hc x4 K0 x5 MR x6 MS x7 MT x8 PP=>h ⟨x0,x1,x2,x3,x4,x5,x6,x7,x8⟩ ⟨Dr,DY,HT,Hc,K0,MR,MS,MT,PP⟩
def iU(k:Ty->List Dt->List Dt)(a:Ty)(t:List Dt):rd_Ty k (d_Ty a t)=k a t:=rfl
def Bo:=aI @v_Ty.eq_1 (aI @d_Ty.eq_1 (aI @rd_Ty.eq_1 (@kTy.eq_1)))
def Sta.eta(a:Sta):(⟨a.r0,a.r1,a.r2,a.r3,a.r4,a.r5,a.r6,a.r7,a.r8,a.r9,a.r10,a.s0,a.s1,a.s2,a.s3,a.s4,a.s5,a.s6,a.s7⟩:Sta)=a:=rfl
def rd_Sta(k:Sta->List Dt->List Dt):List Dt->List Dt:=rd_Ty fun r0=>rd_Ty fun r1=>rd_Ty fun r2=>rd_Ty fun r3=>rd_Ty fun r4=>rd_Ty fun r5=>rd_Ty fun r6=>rd_Ty fun r7=>rd_Ty fun r8=>rd_Ty fun r9=>rd_Ty fun r10=>rd_Ty fun s0=>rd_Ty fun s1=>rd_Ty fun s2=>rd_Ty fun s3=>rd_Ty fun s4=>rd_Ty fun s5=>rd_Ty fun s6=>rd_Ty fun s7=>fun r=>k ⟨r0,r1,r2,r3,r4,r5,r6,r7,r8,r9,r10,s0,s1,s2,s3,s4,s5,s6,s7⟩ r
def Sta.ok(a:Sta):Prop:=Ty.ok a.r0/\Ty.ok a.r1/\Ty.ok a.r2/\Ty.ok a.r3/\Ty.ok a.r4/\Ty.ok a.r5/\Ty.ok a.r6/\Ty.ok a.r7/\Ty.ok a.r8/\Ty.ok a.r9/\Ty.ok a.r10/\Ty.ok a.s0/\Ty.ok a.s1/\Ty.ok a.s2/\Ty.ok a.s3/\Ty.ok a.s4/\Ty.ok a.s5/\Ty.ok a.s6/\Ty.ok a.s7
def kSta:List CK:=[.int .i8,.int .u64,.int .u64,.int .i64,.int .i64,.int .u64,.int .u64,.int .i64,.int .i64,.int .i8,.int .u64,.int .u64,.int .i64,.int .i64,.int .u64,.int .u64,.int .i64,.int .i64,.int .i8,.int .u64,.int .u64,.int .i64,.int .i64,.int .u64,.int .u64,.int .i64,.int .i64,.int .i8,.int .u64,.int .u64,.int .i64,.int .i64,.int .u64,.int .u64,.int .i64,.int .i64,.int .i8,.int .u64,.int .u64,.int .i64,.int .i64,.int .u64,.int .u64,.int .i64,.int .i64,.int .i8,.int .u64,.int .u64,.int .i64,.int .i64,.int .u64,.int .u64,.int .i64,.int .i64,.int .i8,.int .u64,.int .u64,.int .i64,.int .i64,.int .u64,.int .u64,.int .i64,.int .i64,.int .i8,.int .u64,.int .u64,.int .i64,.int .i64,.int .u64,.int .u64,.int .i64,.int .i64,.int .i8,.int .u64,.int .u64,.int .i64,.int .i64,.int .u64,.int .u64,.int .i64,.int .i64,.int .i8,.int .u64,.int .u64,.int .i64,.int .i64,.int .u64,.int .u64,.int .i64,.int .i64,.int .i8,.int .u64,.int .u64,.int .i64,.int .i64,.int .u64,.int .u64,.int .i64,.int .i64,.int .i8,.int .u64,.int .u64,.int .i64,.int .i64,.int .u64,.int .u64,.int .i64,.int .i64,.int .i8,.int .u64,.int .u64,.int .i64,.int .i64,.int .u64,.int .u64,.int .i64,.int .i64,.int .i8,.int .u64,.int .u64,.int .i64,.int .i64,.int .u64,.int .u64,.int .i64,.int .i64,.int .i8,.int .u64,.int .u64,.int .i64,.int .i64,.int .u64,.int .u64,.int .i64,.int .i64,.int .i8,.int .u64,.int .u64,.int .i64,.int .i64,.int .u64,.int .u64,.int .i64,.int .i64,.int .i8,.int .u64,.int .u64,.int .i64,.int .i64,.int .u64,.int .u64,.int .i64,.int .i64,.int .i8,.int .u64,.int .u64,.int .i64,.int .i64,.int .u64,.int .u64,.int .i64,.int .i64,.int .i8,.int .u64,.int .u64,.int .i64,.int .i64,.int .u64,.int .u64,.int .i64,.int .i64]
def v_Sta(t:List VK):List VK:=v_Ty (v_Ty (v_Ty (v_Ty (v_Ty (v_Ty (v_Ty (v_Ty (v_Ty (v_Ty (v_Ty (v_Ty (v_Ty (v_Ty (v_Ty (v_Ty (v_Ty (v_Ty (v_Ty (t)))))))))))))))))))
def d_Sta(a:Sta)(t:List Dt):List Dt:=d_Ty a.r0 (d_Ty a.r1 (d_Ty a.r2 (d_Ty a.r3 (d_Ty a.r4 (d_Ty a.r5 (d_Ty a.r6 (d_Ty a.r7 (d_Ty a.r8 (d_Ty a.r9 (d_Ty a.r10 (d_Ty a.s0 (d_Ty a.s1 (d_Ty a.s2 (d_Ty a.s3 (d_Ty a.s4 (d_Ty a.s5 (d_Ty a.s6 (d_Ty a.s7 (t)))))))))))))))))))
def fE{l:List VK}{p:List Dt->Prop}(h:∀a:Sta,Sta.ok a->ba l fun r=>p (d_Sta a r)):ba (v_Sta l) p:=bP fun r0 FF=>bP fun r1 ED=>bP fun r2 G0=>bP fun r3 No=>bP fun r4 O0=>bP fun r5 hr5=>bP fun r6 hr6=>bP fun r7 hr7=>bP fun r8 hr8=>bP fun r9 hr9=>bP fun r10 hr10=>bP fun s0 Lb=>bP fun s1 Cj=>bP fun s2 HF=>bP fun s3 Tk=>bP fun s4 hs4=>bP fun s5 hs5=>bP fun s6 hs6=>bP fun s7 hs7=>h ⟨r0,r1,r2,r3,r4,r5,r6,r7,r8,r9,r10,s0,s1,s2,s3,s4,s5,s6,s7⟩ ⟨FF,ED,G0,No,O0,hr5,hr6,hr7,hr8,hr9,hr10,Lb,Cj,HF,Tk,hs4,hs5,hs6,hs7⟩
def de(k:Sta->List Dt->List Dt)(a:Sta)(t:List Dt):rd_Sta k (d_Sta a t)=k a t:=by simp only[rd_Sta,d_Sta,iU]
def js:=aI @v_Sta.eq_1 (aI @d_Sta.eq_1 (aI @rd_Sta.eq_1 (@kSta.eq_1)))
def Snap.eta(a:Snap):(⟨a.r0,a.r1,a.r2,a.r3,a.r4,a.r5,a.r6,a.r7,a.r8,a.r9,a.r10,a.set,a.f0,a.f1,a.f2,a.f3,a.f4,a.f5,a.f6,a.f7,a.f8,a.f9,a.f10,a.f11,a.f12,a.f13,a.f14,a.f15,a.f16,a.f17,a.f18,a.f19,a.f20,a.f21,a.f22,a.f23,a.f24,a.f25,a.f26,a.f27,a.f28,a.f29,a.f30,a.f31,a.f32,a.f33,a.f34,a.f35,a.f36,a.f37,a.f38,a.f39,a.f40,a.f41,a.f42,a.f43,a.f44,a.f45,a.f46,a.f47,a.f48,a.f49,a.f50,a.f51,a.f52,a.f53,a.f54,a.f55,a.f56,a.f57,a.f58,a.f59,a.f60,a.f61,a.f62,a.f63⟩:Snap)=a:=rfl
def Snap.ok(a:Snap):Prop:=Aj .u64 a.r0=ZB/\Aj .u64 a.r1=ZB/\Aj .u64 a.r2=ZB/\Aj .u64 a.r3=ZB/\Aj .u64 a.r4=ZB/\Aj .u64 a.r5=ZB/\Aj .u64 a.r6=ZB/\Aj .u64 a.r7=ZB/\Aj .u64 a.r8=ZB/\Aj .u64 a.r9=ZB/\Aj .u64 a.r10=ZB/\Aj .i64 a.set=ZB/\Aj .u8 a.f0=ZB/\Aj .u8 a.f1=ZB/\Aj .u8 a.f2=ZB/\Aj .u8 a.f3=ZB/\Aj .u8 a.f4=ZB/\Aj .u8 a.f5=ZB/\Aj .u8 a.f6=ZB/\Aj .u8 a.f7=ZB/\Aj .u8 a.f8=ZB/\Aj .u8 a.f9=ZB/\Aj .u8 a.f10=ZB/\Aj .u8 a.f11=ZB/\Aj .u8 a.f12=ZB/\Aj .u8 a.f13=ZB/\Aj .u8 a.f14=ZB/\Aj .u8 a.f15=ZB/\Aj .u8 a.f16=ZB/\Aj .u8 a.f17=ZB/\Aj .u8 a.f18=ZB/\Aj .u8 a.f19=ZB/\Aj .u8 a.f20=ZB/\Aj .u8 a.f21=ZB/\Aj .u8 a.f22=ZB/\Aj .u8 a.f23=ZB/\Aj .u8 a.f24=ZB/\Aj .u8 a.f25=ZB/\Aj .u8 a.f26=ZB/\Aj .u8 a.f27=ZB/\Aj .u8 a.f28=ZB/\Aj .u8 a.f29=ZB/\Aj .u8 a.f30=ZB/\Aj .u8 a.f31=ZB/\Aj .u8 a.f32=ZB/\Aj .u8 a.f33=ZB/\Aj .u8 a.f34=ZB/\Aj .u8 a.f35=ZB/\Aj .u8 a.f36=ZB/\Aj .u8 a.f37=ZB/\Aj .u8 a.f38=ZB/\Aj .u8 a.f39=ZB/\Aj .u8 a.f40=ZB/\Aj .u8 a.f41=ZB/\Aj .u8 a.f42=ZB/\Aj .u8 a.f43=ZB/\Aj .u8 a.f44=ZB/\Aj .u8 a.f45=ZB/\Aj .u8 a.f46=ZB/\Aj .u8 a.f47=ZB/\Aj .u8 a.f48=ZB/\Aj .u8 a.f49=ZB/\Aj .u8 a.f50=ZB/\Aj .u8 a.f51=ZB/\Aj .u8 a.f52=ZB/\Aj .u8 a.f53=ZB/\Aj .u8 a.f54=ZB/\Aj .u8 a.f55=ZB/\Aj .u8 a.f56=ZB/\Aj .u8 a.f57=ZB/\Aj .u8 a.f58=ZB/\Aj .u8 a.f59=ZB/\Aj .u8 a.f60=ZB/\Aj .u8 a.f61=ZB/\Aj .u8 a.f62=ZB/\Aj .u8 a.f63=ZB
structure Fr where
 f0:Int
 f1:Int
 f2:Int
 f3:Int
 f4:Int
 f5:Int
 f6:Int
 f7:Int
 f8:Int
 f9:Int
 f10:Int
 f11:Int
 f12:Int
 f13:Int
 f14:Int
 f15:Int
 f16:Int
 f17:Int
 f18:Int
 f19:Int
 f20:Int
 f21:Int
 f22:Int
 f23:Int
 f24:Int
 f25:Int
 f26:Int
 f27:Int
 f28:Int
 f29:Int
 f30:Int
 f31:Int
 f32:Int
 f33:Int
 f34:Int
 f35:Int
 f36:Int
 f37:Int
 f38:Int
 f39:Int
 f40:Int
 f41:Int
 f42:Int
 f43:Int
 f44:Int
 f45:Int
 f46:Int
 f47:Int
 f48:Int
 f49:Int
 f50:Int
 f51:Int
 f52:Int
 f53:Int
 f54:Int
 f55:Int
 f56:Int
 f57:Int
 f58:Int
 f59:Int
 f60:Int
 f61:Int
 f62:Int
 f63:Int
def Fr.eta(a:Fr):(⟨a.f0,a.f1,a.f2,a.f3,a.f4,a.f5,a.f6,a.f7,a.f8,a.f9,a.f10,a.f11,a.f12,a.f13,a.f14,a.f15,a.f16,a.f17,a.f18,a.f19,a.f20,a.f21,a.f22,a.f23,a.f24,a.f25,a.f26,a.f27,a.f28,a.f29,a.f30,a.f31,a.f32,a.f33,a.f34,a.f35,a.f36,a.f37,a.f38,a.f39,a.f40,a.f41,a.f42,a.f43,a.f44,a.f45,a.f46,a.f47,a.f48,a.f49,a.f50,a.f51,a.f52,a.f53,a.f54,a.f55,a.f56,a.f57,a.f58,a.f59,a.f60,a.f61,a.f62,a.f63⟩:Fr)=a:=rfl
def Fr.ok(a:Fr):Prop:=Aj .u8 a.f0=ZB/\Aj .u8 a.f1=ZB/\Aj .u8 a.f2=ZB/\Aj .u8 a.f3=ZB/\Aj .u8 a.f4=ZB/\Aj .u8 a.f5=ZB/\Aj .u8 a.f6=ZB/\Aj .u8 a.f7=ZB/\Aj .u8 a.f8=ZB/\Aj .u8 a.f9=ZB/\Aj .u8 a.f10=ZB/\Aj .u8 a.f11=ZB/\Aj .u8 a.f12=ZB/\Aj .u8 a.f13=ZB/\Aj .u8 a.f14=ZB/\Aj .u8 a.f15=ZB/\Aj .u8 a.f16=ZB/\Aj .u8 a.f17=ZB/\Aj .u8 a.f18=ZB/\Aj .u8 a.f19=ZB/\Aj .u8 a.f20=ZB/\Aj .u8 a.f21=ZB/\Aj .u8 a.f22=ZB/\Aj .u8 a.f23=ZB/\Aj .u8 a.f24=ZB/\Aj .u8 a.f25=ZB/\Aj .u8 a.f26=ZB/\Aj .u8 a.f27=ZB/\Aj .u8 a.f28=ZB/\Aj .u8 a.f29=ZB/\Aj .u8 a.f30=ZB/\Aj .u8 a.f31=ZB/\Aj .u8 a.f32=ZB/\Aj .u8 a.f33=ZB/\Aj .u8 a.f34=ZB/\Aj .u8 a.f35=ZB/\Aj .u8 a.f36=ZB/\Aj .u8 a.f37=ZB/\Aj .u8 a.f38=ZB/\Aj .u8 a.f39=ZB/\Aj .u8 a.f40=ZB/\Aj .u8 a.f41=ZB/\Aj .u8 a.f42=ZB/\Aj .u8 a.f43=ZB/\Aj .u8 a.f44=ZB/\Aj .u8 a.f45=ZB/\Aj .u8 a.f46=ZB/\Aj .u8 a.f47=ZB/\Aj .u8 a.f48=ZB/\Aj .u8 a.f49=ZB/\Aj .u8 a.f50=ZB/\Aj .u8 a.f51=ZB/\Aj .u8 a.f52=ZB/\Aj .u8 a.f53=ZB/\Aj .u8 a.f54=ZB/\Aj .u8 a.f55=ZB/\Aj .u8 a.f56=ZB/\Aj .u8 a.f57=ZB/\Aj .u8 a.f58=ZB/\Aj .u8 a.f59=ZB/\Aj .u8 a.f60=ZB/\Aj .u8 a.f61=ZB/\Aj .u8 a.f62=ZB/\Aj .u8 a.f63=ZB
def ct:=aI Fr.eta (aI Kn.eta (aI Pi.eta (aI Pu.eta (aI Rg.eta (aI Sc.eta (aI Snap.eta (aI Sta.eta (aI Ty.eta (aI Sc.eta_r (aI Sc.eta_k (aI Sc.eta_2 (Ty.eta_s))))))))))))
def FC:List C:=[.int .u64 (.p 0),.int .u64 (.p 0),.int .i64 (.p 0),.int .i64 (.p 0),.int .u64 (.p 0),.int .u64 (.p 0)]
def qW:Tryz.prog.eqGuardType Tryz.prog.depth 61=ZC:=by kernel_rfl
def aee:Tryz.prog.cellsOf 61=6:=by kernel_rfl
def aei:Tryz.prog.cellsOf 57=4:=by kernel_rfl
def aeg:Tryz.prog.cellsOf 59=2:=by kernel_rfl
def aem:Tryz.prog.cellsOf 43=1:=by kernel_rfl
def ajm:Tryz.prog.cellsOf 2=1:=by kernel_rfl
def avE(vs:List Value)(hv:aD vs FC):Tryz.prog.keyLits 6 61 vs=ZA (cD vs):=by
 obtain⟨x0,_,rfl,g0,hv⟩:=ah hv;obtain⟨x1,_,rfl,g1,hv⟩:=ah hv;obtain⟨x2,_,rfl,g2,hv⟩:=ah hv;obtain⟨x3,_,rfl,g3,hv⟩:=ah hv;obtain⟨x4,_,rfl,g4,hv⟩:=ah hv;obtain⟨x5,_,rfl,g5,hv⟩:=ah hv;obtain rfl:=bz hv;simp[Program.keyLits,underlying61,underlying57,underlying59,underlying43,underlying2,aee,aei,aeg,aem,ajm,xR,cD,g0,g1,g2,g3,g4,g5];split
 .simp only[Option.bind_some,Function.comp_apply];split
  .rfl
  next h=>exact ak Os h
 next h=>exact ak Os h
def aww(vs:List Value)(hv:aD vs FC):(Value.agg vs.toArray).formed ZF 61=ZB:=by obtain⟨x0,_,rfl,g0,hv⟩:=ah hv;obtain⟨x1,_,rfl,g1,hv⟩:=ah hv;obtain⟨x2,_,rfl,g2,hv⟩:=ah hv;obtain⟨x3,_,rfl,g3,hv⟩:=ah hv;obtain⟨x4,_,rfl,g4,hv⟩:=ah hv;obtain⟨x5,_,rfl,g5,hv⟩:=ah hv;obtain rfl:=bz hv;kernel_rfl
def Mu(vs us:List Value)(hv:aD vs FC)(hu:aD us FC)(w:World):(Op.equal 61 (.agg vs.toArray) (.agg us.toArray)).run ZF w=.ok (CB vs us) w:=fU (by kernel_rfl) aww 6 avE vs us hv hu w
def D5:List C:=[.int .i8 (.p 0),.int .u64 (.p 0),.int .u64 (.p 0),.int .i64 (.p 0),.int .i64 (.p 0),.int .u64 (.p 0),.int .u64 (.p 0),.int .i64 (.p 0),.int .i64 (.p 0)]
def qV:Tryz.prog.eqGuardType Tryz.prog.depth 63=ZC:=by kernel_rfl
def aec:Tryz.prog.cellsOf 63=9:=by kernel_rfl
def aep:Tryz.prog.cellsOf 39=1:=by kernel_rfl
def aed:Tryz.prog.cellsOf 61=6:=by kernel_rfl
def aeh:Tryz.prog.cellsOf 57=4:=by kernel_rfl
def aef:Tryz.prog.cellsOf 59=2:=by kernel_rfl
def ael:Tryz.prog.cellsOf 43=1:=by kernel_rfl
def ajl:Tryz.prog.cellsOf 2=1:=by kernel_rfl
def ajk:Tryz.prog.cellsOf 3=1:=by kernel_rfl
def V2(vs:List Value)(hv:aD vs D5):Tryz.prog.keyLits 6 63 vs=ZA (cD vs):=by
 obtain⟨x0,_,rfl,g0,hv⟩:=ah hv;obtain⟨x1,_,rfl,g1,hv⟩:=ah hv;obtain⟨x2,_,rfl,g2,hv⟩:=ah hv;obtain⟨x3,_,rfl,g3,hv⟩:=ah hv;obtain⟨x4,_,rfl,g4,hv⟩:=ah hv;obtain⟨x5,_,rfl,g5,hv⟩:=ah hv;obtain⟨x6,_,rfl,g6,hv⟩:=ah hv;obtain⟨x7,_,rfl,g7,hv⟩:=ah hv;obtain⟨x8,_,rfl,g8,hv⟩:=ah hv;obtain rfl:=bz hv;simp[Program.keyLits,underlying63,underlying39,underlying61,underlying57,underlying59,underlying43,underlying2,underlying3,aec,aep,aed,aeh,aef,ael,ajl,ajk,xR,cD,g0,g1,g2,g3,g4,g5,g6,g7,g8]
 repeat (rw[ae];rotate_left;· decide)
 rfl
def awv(vs:List Value)(hv:aD vs D5):(Value.agg vs.toArray).formed ZF 63=ZB:=by obtain⟨x0,_,rfl,g0,hv⟩:=ah hv;obtain⟨x1,_,rfl,g1,hv⟩:=ah hv;obtain⟨x2,_,rfl,g2,hv⟩:=ah hv;obtain⟨x3,_,rfl,g3,hv⟩:=ah hv;obtain⟨x4,_,rfl,g4,hv⟩:=ah hv;obtain⟨x5,_,rfl,g5,hv⟩:=ah hv;obtain⟨x6,_,rfl,g6,hv⟩:=ah hv;obtain⟨x7,_,rfl,g7,hv⟩:=ah hv;obtain⟨x8,_,rfl,g8,hv⟩:=ah hv;obtain rfl:=bz hv;kernel_rfl
def Mr(vs us:List Value)(hv:aD vs D5)(hu:aD us D5)(w:World):(Op.equal 63 (.agg vs.toArray) (.agg us.toArray)).run ZF w=.ok (CB vs us) w:=fU (by kernel_rfl) awv 6 V2 vs us hv hu w
def dy{q:Prop}(k:q2)(h:p->q=q2:=by intro e;(try simp only[e,ct,-eq_self]);rfl):p->q:=fun e=>(h e).symm▸k
def apH:List (Nat×TI):=[(2,DA),
 (3,C1),
 (39,hZ),
 (43,hJ),
 (57,lm),
 (59,oQ),
 (61,iM),
 (63,yL),
 (64,OI),
 (65,OH),
 (67,SD)]
def lY:∀t i,(t,i)∈apH->TIok ZF t i:=bK (Ed (z:=FC) ⟨Mu,qW⟩<|Ed (z:=D5) ⟨Mr,qV⟩ Ch) Ch (by kernel_rfl)
def c_tscal:Cd:=⟨40,[],[.agg kTy],fun _=>d_Ty tscal [],T0⟩
def abv:Tr:=
(.call 0 (kSc) .nil 0
(.u (.cons (.p 1) (.vs 0 6 (.cons (.p 0) (.cons (.p 0) .nil))))))
def qP:c_tscal.Ok ZF:=
 A4 abv [] lY (Aq sM AR) func40<|fun hp ρ g=>by
 simp only[abv,c_vall,c_tscal,Bo,A5,Am,YI,ZE,-eq_self,ct];refine dy ?_
 .rfl
def c_ttok:Cd:=⟨70,[.agg kTy],[.one .bool],rd_Ty fun t _=>[.z (Ay (BJ t))],T0⟩
def UQ:Tr:=(.br (.eq (.w 1) (.p 0))
(.br (.eq (.w 2) (.p 0))
(.br (.eq (.w 3) (.p 0))
(.br (.eq (.w 4) (.p 0))
(.br (.eq (.w 5) (.p 0))
(.br (.eq (.w 6) (.p 0))
(.br (.lt (.w 8) (.w 7))
 zlF
(.br (.lt (.w 7) (.p (-1048576)))
 zlF
(.u (.j (.not (.lt (.p 1048576) (.w 8))) .nil))))
 zlF)
 zlF)
 zlF)
 zlF)
 zlF)
 zlF)
def agD:Tr:=
(.br (.eq (.w 0) (.p 0))
(.u (.j (.and (.eq (.w 0) (.p 0)) (.and (.eq (.w 1) (.p 0)) (.and (.eq (.w 2) (.p 0)) (.and (.eq (.w 3) (.p 0)) (.and (.eq (.w 4) (.p 0)) (.and (.eq (.w 5) (.p 0)) (.and (.eq (.w 6) (.p 0)) (.and (.eq (.w 7) (.p 0)) (.and (.eq (.w 8) (.p 0)) (.tt ZB)))))))))) .nil))
(.br (.eq (.w 0) (.p 1))
(.br (.eq (.w 7) (.p 0))
(.br (.eq (.w 8) (.p 0))
(.call 0 [.bool] (.vs 1 6 .nil) 9
(.u (.j (.s 9) .nil)))
 zlF)
 zlF)
(.br (.eq (.w 0) (.p 2))
 UQ
(.br (.eq (.w 0) (.p 3))
 UQ
 zlF))))
def anI:c_ttok.Ok ZF:=
 A4 agD (v_Ty []) lY (Aq qO AR) func70<|bP fun t ht hp ρ g=>by
 simp only[Bo,A5,AT,ZE]at g;simp only[agD,UQ,c_vmay,c_ttok,Bo,A5,Am,YI,ZE,-eq_self,ct,g]
 .repeat' first|apply aI<;>intro c|refine dy ?_|exact Za
def c_tmay:Cd:=⟨76,[.agg kSta],[.one .bool],rd_Sta fun s _=>[.z (Ay (AV s))],T0⟩
def agE:Tr:=
(.call 0 [.bool] (.vs 0 9 .nil) 171
(.br (.s 171)
(.call 0 [.bool] (.vs 9 9 .nil) 172
(.br (.s 172)
(.call 0 [.bool] (.vs 18 9 .nil) 173
(.br (.s 173)
(.call 0 [.bool] (.vs 27 9 .nil) 174
(.br (.s 174)
(.call 0 [.bool] (.vs 36 9 .nil) 175
(.br (.s 175)
(.call 0 [.bool] (.vs 45 9 .nil) 176
(.br (.s 176)
(.call 0 [.bool] (.vs 54 9 .nil) 177
(.br (.s 177)
(.call 0 [.bool] (.vs 63 9 .nil) 178
(.br (.s 178)
(.call 0 [.bool] (.vs 72 9 .nil) 179
(.br (.s 179)
(.call 0 [.bool] (.vs 81 9 .nil) 180
(.br (.s 180)
(.call 0 [.bool] (.vs 90 9 .nil) 181
(.br (.s 181)
(.br (.eq (.w 99) (.p 0))
 zlF
(.call 0 [.bool] (.vs 99 9 .nil) 182
(.br (.s 182)
(.br (.eq (.w 108) (.p 0))
 zlF
(.call 0 [.bool] (.vs 108 9 .nil) 183
(.br (.s 183)
(.br (.eq (.w 117) (.p 0))
 zlF
(.call 0 [.bool] (.vs 117 9 .nil) 184
(.br (.s 184)
(.br (.eq (.w 126) (.p 0))
 zlF
(.call 0 [.bool] (.vs 126 9 .nil) 185
(.br (.s 185)
(.br (.eq (.w 135) (.p 0))
 zlF
(.call 0 [.bool] (.vs 135 9 .nil) 186
(.br (.s 186)
(.br (.eq (.w 144) (.p 0))
 zlF
(.call 0 [.bool] (.vs 144 9 .nil) 187
(.br (.s 187)
(.br (.eq (.w 153) (.p 0))
 zlF
(.call 0 [.bool] (.vs 153 9 .nil) 188
(.br (.s 188)
(.br (.eq (.w 162) (.p 0))
 zlF
(.call 0 [.bool] (.vs 162 9 .nil) 189
(.br (.s 189)
 zlT
 zlF)))
 zlF)))
 zlF)))
 zlF)))
 zlF)))
 zlF)))
 zlF)))
 zlF)))
 zlF))
 zlF))
 zlF))
 zlF))
 zlF))
 zlF))
 zlF))
 zlF))
 zlF))
 zlF))
 zlF))
def UA:c_tmay.Ok ZF:=
 A4 agE (v_Sta []) lY (Aq anI AR) func76<|fE fun s hs hp ρ g=>by
 simp only[c_tmay,de,iU,rdZ,rdB,rdL];simp only[js,Bo,AT,ZE]at g;simp(maxSteps:=10000000) only[agE,Lv,c_ttok,rdZ,rdB,rdL,c_tmay,js,Bo,Am,YI,ZE,-eq_self,ct,g];refine dy ?_
 .repeat' first|apply aI<;>intro c|refine dy ?_|exact Xq
def c_tfirst:Cd:=⟨13,[],[.agg kSta],fun _=>d_Sta jJ [],T0⟩
def wO:Tr:=
(.call 0 (kSc) (.cons (.p 0) .nil) 0
(.u (.zs [0,0,0,0,0,0,0,0,0,2,0,0,0,0,0,0,0,0,0,0,0,0,0,0,0,0,0,0,0,0,0,0,0,0,0,0,0,0,0,0,0,0,0,0,0,0,0,0,0,0,0,0,0,0,0,0,0,0,0,0,0,0,0,0,0,0,0,0,0,0,0,0,0,0,0,0,0,0,0,0,0,0,0,0,0,0,0,0,0,0,3,0,0,0,0,0,0,64,64,1] (.vs 0 6 (.zs [0,0,1] (.vs 0 6 (.zs [0,0,1] (.vs 0 6 (.zs [0,0,1] (.vs 0 6 (.zs [0,0,1] (.vs 0 6 (.zs [0,0,1] (.vs 0 6 (.zs [0,0,1] (.vs 0 6 (.zs [0,0,1] (.vs 0 6 (.cons (.p 0) (.cons (.p 0) .nil))))))))))))))))))))
def alO:c_tfirst.Ok ZF:=
 A4 wO [] lY (Aq R3 AR) func13<|fun hp ρ g=>by
 simp only[wO,c_vone,c_tfirst,js,Bo,A5,Am,YI,ZE,-eq_self,ct];refine dy ?_
 .rfl
def akk{s:Sta}{P:Ty->Prop}(h0:P s.r0)(h1:P s.r1)(h2:P s.r2)(h3:P s.r3)(h4:P s.r4)(h5:P s.r5)(h6:P s.r6)(h7:P s.r7)(h8:P s.r8)(h9:P s.r9)(HU:P s.r10)(b0:0<=d)(b1:d<=10):P (Al s d):=by
 have h:d=0\/d=1\/d=2\/d=3\/d=4\/d=5\/d=6\/d=7\/d=8\/d=9\/d=10:=Fn;rcases h with rfl|rfl|rfl|rfl|rfl|rfl|rfl|rfl|rfl|rfl|rfl
 .exact h0
 .exact h1
 .exact h2
 .exact h3
 .exact h4
 .exact h5
 .exact h6
 .exact h7
 .exact h8
 .exact h9
 .exact HU
def asJ(s:Sta)(d:Int):(Al s d).k=(ig s).getD d.toNat 0:=rfl
def yE{s:Sta}(h:fH s R=ZC)(b0:0<=d)(b1:d<=10)(hR:R.testBit d.toNat=ZB):(Al s d).k≠0:=by unfold fH at h;rw[List.any_eq_false]at h;have q:=h d.toNat (List.mem_range.2 Fn);rw[hR,Bool.true_and]at q;rw[asJ];simpa using q
def acB{x:Ins}(h:AL x=ZB)(hk:x.k=0):BT x.op x.w=ZB:=by unfold AL at h;rw[ne,ne]at h;have q:=h.2.1;unfold cE at q;rw[ae hk]at q;unfold BT iJ;simp only[ne,eu,ax,cb]at q ⊢;omega
def asn{x:Ins}{s:Sta}(hb:x.br=ZB)(h:bm (Al s x.s) q=ZB):bm (cA x s) q=ZB:=by unfold cA;rw[ae hb];exact h
def aso{x:Ins}{s:Sta}(hb:x.br=ZC):bm (cA x s) (ZG .u64 x.imm)=ZB:=by unfold cA;rw[aa (by rw[hb];simp)];exact vU Yy
section
variable {p:Prog}{i:Int}{s:Sta}{a q:Int}
end
def Bq(T:LL)(i:Int)(o:Nat):Ty:=⟨gt T i o,gt T i (o+1),gt T i (o+2),gt T i (o+3),gt T i (o+4),gt T i (o+5),gt T i (o+6),gt T i (o+7),gt T i (o+8)⟩
def ap(T:LL)(i:Int):Sta:=⟨Bq T i 1,Bq T i 10,Bq T i 19,Bq T i 28,Bq T i 37,Bq T i 46,Bq T i 55,Bq T i 64,Bq T i 73,Bq T i 82,Bq T i 91,Bq T i 100,Bq T i 109,Bq T i 118,Bq T i 127,Bq T i 136,Bq T i 145,Bq T i 154,Bq T i 163⟩
def HM(t:Ty)(x:Ins):Int:=Ac .add .i64 t.lo x.off
def HL(t:Ty)(x:Ins):Int:=Ac .add .i64 t.hi x.off
def Rj(x:Ins)(s:Sta)(t:Ty):Sta×Int:=
 if t.k=3 then(BU (BU s x.d (DH (C5 x.sz))) x.d (oR (BU s x.d (DH (C5 x.sz))) (HM t x) (HL t x) x.sz),qa (BU s x.d (DH (C5 x.sz))) (HM t x) (HL t x) x.sz)
 else(BU s x.d (DH (C5 x.sz)),0)
def Rn(x:Ins)(s:Sta)(t:Ty):Sta×Int:=if t.k=3 then(je s (HM t x) (HL t x) x.sz (Al s x.s),nJ s (HM t x) (HL t x) x.sz (Al s x.s))else(s,0)
def Pd(s:Sta):Sta:={s with r0:=tscal,r1:=tnil,r2:=tnil,r3:=tnil,r4:=tnil,r5:=tnil}
def BB(p:Prog)(x:Ins)(s:Sta):Sta×Int:=
 if x.k=0 then(BU s x.d (Do x (Al s x.d) (cA x s)),0)
 else if x.k=1 then(if aG p.ctx (Al s x.s) x.off x.sz=ZB then Rj x s (Al s x.s)else(s,111))
 else if x.k=2 then(if aG p.ctx (Al s x.d) x.off x.sz=ZB then Rn x s (Al s x.d)else(s,111))
 else if x.k=5 then(Pd s,0)
 else(s,0)
def CW(s:Sta)(d:Int)(a b:Ty)(Q8:Bool)(go cc:Int)(QW:Bool):List (Int×Sta):=if(Q8&&QW)=ZB then(if DB cc a.s b.s=ZB then[(go,BU s d (DH (Ev cc a.s b.s)))]else[])else[(go,s)]
def iq(x:Ins)(s:Sta)(b:Ty):Bool:=x.k==3&&((Al s x.d).k==1&&b.k==1)
def gH(i:Int)(x:Ins)(s:Sta)(b:Ty):List (Int×Sta):=if x.k=4\/x.k=6 then[]else CW s x.d (Al s x.d) b (iq x s b) (Ac .add .i64 i 1) (im x.op) (gE x.op)
def hG(i:Int)(x:Ins)(s:Sta)(b:Ty):List (Int×Sta):=if(AD i x).2=ZB then CW s x.d (Al s x.d) b (iq x s b) (AD i x).1 x.op ZB else[]
def bA(p:Prog)(i:Int)(s:Sta):List (Int×Sta)×Int:=
 if fH s (C7 (ab p.l i)).toNat=ZB then([],110)
 else if(BB p (ab p.l i) s).2=0 then(gH i (ab p.l i) (BB p (ab p.l i) s).1 (cA (ab p.l i) s)++hG i (ab p.l i) (BB p (ab p.l i) s).1 (cA (ab p.l i) s),0)
 else([],(BB p (ab p.l i) s).2)
structure VR where
 w:Int
 T:LL
 g:LL
def GR(w n:Int):Int:=Ac .or .u64 w (Ac .shl .u64 1 n)
def IN(r:VR)(q:Int×Sta):Sta:=iQ (decide (8<gt r.g q.1 0)) (ap r.T q.1) q.2
def AN(r:VR)(q:Int×Sta):VR:=
 if gt r.T q.1 0=1 then(if BG (IN r q)=BG (ap r.T q.1)then r else⟨GR r.w q.1,r.T.set q.1.toNat (1::BG (IN r q)),st r.g q.1 0 (Ac .add .i64 (gt r.g q.1 0) 1)⟩)
 else⟨GR r.w q.1,r.T.set q.1.toNat (1::BG q.2),r.g⟩
abbrev Mp:=LL×LL×Int×Int
def lV(p:Prog)(T:LL):Mp:=
 ((List.range p.l.length).map fun(k:Nat)=>[Ay (gt T k 0==1)],(List.range p.l.length).map fun(k:Nat)=>if gt T k 0=1 then BG (ap T k)else YK 171 0,0,0)
def jn(r:VR):VR:=⟨Ac .and .u64 r.w (Ac .sub .u64 r.w 1),r.T,r.g⟩
def jo(p:Prog):Nat->Int->VR->Mp
 |0,last,r=>if r.w=0 then lV p r.T else([],[],last,112)
 |n+1,last,r=>if r.w=0 then lV p r.T else
   if(bA p (CL r.w) (ap r.T (CL r.w))).2=0 then jo p n (CL r.w) ((bA p (CL r.w) (ap r.T (CL r.w))).1.foldl AN (jn r))
   else([],[],CL r.w,(bA p (CL r.w) (ap r.T (CL r.w))).2)
def vini:VR:=⟨1,(YK 64 (YK 172 0)).set 0 (1::BG jJ),YK 64 [0]⟩
def AK(p:Prog):Mp:=if(aH p).2=0 then jo p 2000 0 vini else([],[],(aH p).1,(aH p).2)
def iu{p:Prog}{n:Nat}{last:Int}{r:VR}(h:r.w=0):jo p n last r=lV p r.T:=by cases n<;>(unfold jo;rw[ae h])
def pQ{p:Prog}{n:Nat}{last:Int}{r:VR}(h:r.w≠0)(he:(bA p (CL r.w) (ap r.T (CL r.w))).2≠0):jo p (n+1) last r=([],[],CL r.w,(bA p (CL r.w) (ap r.T (CL r.w))).2):=by rw[jo,aa h,aa he]
def nB{p:Prog}{n:Nat}{last:Int}{r:VR}(h:r.w≠0)(he:(bA p (CL r.w) (ap r.T (CL r.w))).2=0):jo p (n+1) last r=jo p n (CL r.w) ((bA p (CL r.w) (ap r.T (CL r.w))).1.foldl AN (jn r)):=by rw[jo,aa h,ae he]
def lk{p:Prog}{last:Int}{r:VR}(h:r.w≠0):jo p 0 last r=([],[],last,112):=by rw[jo,aa h]
def gT{T':LL}{n:Nat}(h:T[n]? =T'[n]?)(c:Nat):gt T n c=gt T' n c:=by unfold gt;rw[cy];have e:∀T:LL,T.getD n []=(T[n]?).getD []:=fun T=>bh;rw[e,e,h]
def dO{T':LL}{n:Nat}(h:T[n]? =T'[n]?):ap T n=ap T' n:=by simp only[ap,Bq,gT h]
def Pn{w:Int}(h0:0<=w)(h1:w<=18446744073709551615)(hi:i<64):tb w i=w.toNat.testBit i:=by obtain⟨n,rfl⟩:=cj h0;unfold tb;rw[BitVec.ofInt_natCast,BitVec.getLsbD_ofNat,cy];simp[hi]
def ajj{x:Nat}(h0:0<x)(h:x<2 ^ 64):Lib.ctz 64 x<64/\x.testBit (Lib.ctz 64 x)=ZB/\∀j,(x &&& (x-1)).testBit j=(x.testBit j &&!(j==Lib.ctz 64 x)):=by
 obtain⟨m,hm,hk⟩:=Lib.ctzFrom_spec 64 x h0 h;have e:Lib.ctz 64 x=Lib.ctzFrom 64 x:=aa Fn;rw[e];generalize Lib.ctzFrom 64 x=c at hm hk;have hp:0<2 ^ c:=Nat.two_pow_pos c;have h1:x=2 ^ c*(2*m+1)+0:=Fn;have h2:x-1=2 ^ c*(2*m)+(2 ^ c-1):=by rw[hm,Nat.mul_succ];omega
 have t1:∀j,x.testBit j=if j<c then ZC else(2*m+1).testBit (j-c):=fun j=>by
  rw[h1,Nat.testBit_two_pow_mul_add _ hp];split
  .simp
  .rfl
 have t2:∀j,(x-1).testBit j=if j<c then(2 ^ c-1).testBit j else(2*m).testBit (j-c):=fun j=>by rw[h2,Nat.testBit_two_pow_mul_add _ Fn]
 have b0:(2*m+1).testBit 0=ZB:=by simp
 have b1:(2*m).testBit 0=ZC:=by simp
 have bs:∀d,(2*m+1).testBit (d+1)=m.testBit d/\(2*m).testBit (d+1)=m.testBit d:=fun d=>by rw[Nat.testBit_succ,Nat.testBit_succ,show(2*m+1) / 2=m by omega,show 2*m / 2=m by omega];exact⟨rfl,rfl⟩
 refine⟨hk,by rw[t1,aa (Nat.lt_irrefl c),Nat.sub_self,b0],fun j=> ?_⟩;rw[Nat.testBit_and,t1,t2];by_cases hj:j<c
 .rw[ae hj];simp
 .rw[aa hj,aa hj];by_cases hjc:j=c
  .rw[hjc,Nat.sub_self,b0,b1];simp
  .obtain⟨d,hd⟩:∃d,j-c=d+1:=⟨j-c-1,by omega⟩
   rw[hd,(bs d).1,(bs d).2,show(j==c)=ZC by simp[hjc]];cases m.testBit d<;>rfl
def uX{w:Int}(h0:0<w)(h1:w<=18446744073709551615):∃k:Nat,CL w=(k:Int)/\k<64/\tb w k=ZB/\∀j,j<64->tb (Ac .and .u64 w (Ac .sub .u64 w 1)) j=(tb w j &&!(j==k)):=by
 obtain⟨n,rfl⟩:=cj (Int.le_of_lt h0);obtain⟨c1,c2,c3⟩:=ajj (x:=n) Fn Fn;refine⟨Lib.ctz 64 n,rfl,c1,by rw[Pn Fn h1 c1];exact c2,fun j hj=> ?_⟩;have e:Ac .sub .u64 (n:Int) 1=((n-1:Nat):Int):=by show IntKind.u64.wrap _=_;rw[bg];omega
 rw[e];show tb (bits .and .u64 _ _) j=_;rw[jG,Pn Fn h1 hj,Pn Fn Fn hj,<-Nat.testBit_and,cy,cy];exact c3 j
def yN{w:Int}{n:Nat}(hn:n<64)(hj:j<64):tb (GR w n) j=(tb w j||j==n):=by
 show tb (bits .or .u64 _ _) j=_;rw[fM];have e:Ac .shl .u64 1 (n:Int)=((2 ^ n:Nat):Int):=by show IntKind.u64.wrap (1*2 ^ min (n:Int).toNat 64)=_;rw[bg,cy,Nat.min_eq_left Fn,Int.one_mul];have h2:2 ^ n<2 ^ 64:=Nat.pow_lt_pow_right Os hn;have h3:((2 ^ n:Nat):Int)=(2:Int) ^ n:=Int.natCast_pow 2 n;rw[<-h3];clear h3;generalize (2:Nat) ^ n=z at h2 ⊢;have h4:z<18446744073709551616:=h2;omega
 rw[e];have h2:2 ^ n<2 ^ 64:=Nat.pow_lt_pow_right Os hn;rw[Pn (Int.natCast_nonneg _) Fn hj,cy,Nat.testBit_two_pow];congr 1;rw[ar,ax,cb];exact eq_comm
structure VI(p:Prog)(r:VR):Prop where
 w:0<=r.w/\r.w<=18446744073709551615
 T:r.T.length=64
 g:r.g.length=64
 on:∀k:Nat,k<64->tb r.w k=ZB->k<p.l.length/\gt r.T k 0=1
def Uw{n:Nat}{row:List Int}(k:Nat)(c:Nat)(hn:n<T.length):gt (T.set n row) (k:Int) c=if k=n then row.getD c 0 else gt T k c:=by
 unfold gt;rw[cy];have e:∀T:LL,T.getD k []=(T[k]?).getD []:=fun T=>bh;rw[e,e];split
 next e=>rw[e,List.getElem?_set_self hn];rfl
 next e=>rw[nE (fun e2=>e e2.symm)]
def ac1(op:BinOp)(a b:Int):0<=bits op .u64 a b/\bits op .u64 a b<=18446744073709551615:=by have:=acA op .u64 a b;simp[Aj,IntKind.min,IntKind.max,ZQ,YS]at this;omega
def VI.lay{p:Prog}{r:VR}(h:VI p r){n:Nat}(hn:n<p.l.length)(hl:p.l.length<=64)(row:List Int)(g:LL)(hg:g.length=64):VI p ⟨GR r.w n,r.T.set n (1::row),g⟩ where
 w:=ac1 .or _ _
 T:=by rw[YU];exact h.T
 g:=hg
 on k hk hb:=by
  rw[yN Fn hk,eu,cb]at hb;rw[Uw k 0 (by rw[h.T];omega)];split
  next e=>rw[e];exact⟨hn,rfl⟩
  next e=>exact h.on k hk (hb.resolve_right e)
def VI.put{p:Prog}{r:VR}(h:VI p r){q:Int×Sta}(h0:0<=q.1/\q.1<(p.l.length:Int))(hl:p.l.length<=64):VI p (AN r q):=by
 obtain⟨n,hn⟩:=cj h0.1;unfold AN;rw[hn,cy];split
 .split
  .exact h
  .exact h.lay Fn hl _ _ (by rw[iA];exact h.g)
 .exact h.lay Fn hl _ _ h.g
def VI.puts{p:Prog}(hl:p.l.length<=64):∀(l:List (Int×Sta)) {r:VR},VI p r->(∀q∈l,0<=q.1/\q.1<(p.l.length:Int))->VI p (l.foldl AN r)
 |[],r,h,_=>h
 |q::l,r,h,hq=>VI.puts hl l (h.put (hq q bG) hl) (fun x hx=>hq x (cm _ hx))
def VI.next{p:Prog}{r:VR}(h:VI p r)(hw:r.w≠0):VI p (jn r)/\∃k:Nat,CL r.w=(k:Int)/\k<64/\k<p.l.length/\gt r.T k 0=1:=by obtain⟨k,h1,h2,h3,h4⟩:=uX (by have:=h.w;omega) h.w.2;refine⟨⟨ac1 .and _ _,h.T,h.g,fun j hj hb=> ?_⟩,k,h1,h2,h.on k h2 h3⟩;have hb:tb (Ac .and .u64 r.w (Ac .sub .u64 r.w 1)) j=ZB:=hb;rw[h4 j hj,ne]at hb;exact h.on j hj hb.1
def VI.ini{p:Prog}(hl:1<=p.l.length):VI p vini where
 w:=Os
 T:=by unfold vini;simp
 g:=by unfold vini;simp
 on k hk hb:=by
  have h1:tb 1 k=ZB:=hb;rw[Pn Os Os hk]at h1;have:k=0:=by
   cases k with
   |zero=>rfl
   |succ k=>rw[show Int.toNat 1=1 from rfl,Nat.testBit_succ]at h1;simp at h1
  subst this;exact⟨hl,rfl⟩
def asI{p:Prog}(hl:p.l.length<=maxLen)(h:(aH p).2=0)(hi:i<p.l.length)(ht:(AD i (ab p.l i)).2=ZB):0<=(AD i (ab p.l i)).1/\(AD i (ab p.l i)).1<(p.l.length:Int):=by
 obtain⟨⟨h1,_,_⟩,h2,_⟩:=bj hl h;have h3:=h2 i hi;by_cases hc:(decide (0<=(AD i (ab p.l i)).1)&&decide ((AD i (ab p.l i)).1<=p.last))=ZB
 .simp only[ne,ax]at hc;omega
 .rw[ac4 (fT hl h (Int.natCast_nonneg i) Fn) ht Yk]at h3;cases h3
def atl{p:Prog}(hl:p.l.length<=maxLen)(h:(aH p).2=0)(hi:i<p.l.length)(h4:(ab p.l i).k≠4)(h6:(ab p.l i).k≠6):Ac .add .i64 (i:Int) 1=((i+1:Nat):Int)/\i+1<p.l.length:=by
 obtain⟨⟨h1,h2,h3⟩,_,h5⟩:=bj hl h;have Bg:i+1≠p.l.length:=fun e=>by
  have:p.last=(i:Int):=Fn;rw[this]at h5;rcases h5 with h5|h5
  .exact h4 h5
  .exact h6 h5
 refine⟨?_,by omega⟩;show IntKind.i64.wrap _=_;rw[aK];omega
def aeR{s:Sta}{go:Int}{a b:Ty}{t k:Bool}{q:Int×Sta}(h:q∈CW s d a b t go cc k):q.1=go:=by
 unfold CW at h;split at h
 .split at h
  .rw[cV.1 h]
  .exact ST
 .rw[cV.1 h]
def yA{p:Prog}(hl:p.l.length<=maxLen)(h:(aH p).2=0)(hi:i<p.l.length){s:Sta}{b:Ty}:∀q∈gH i (ab p.l i) s b,0<=q.1/\q.1<(p.l.length:Int):=by
 intro q hq;unfold gH at hq;split at hq
 .cases hq
 next hk=>obtain⟨e1,e2⟩:=atl hl h hi (fun e=>hk (.inl e)) (fun e=>hk (.inr e));rw[aeR hq,e1];omega
def aeN{p:Prog}(hl:p.l.length<=maxLen)(h:(aH p).2=0)(hi:i<p.l.length){s:Sta}{b:Ty}:∀q∈hG i (ab p.l i) s b,0<=q.1/\q.1<(p.l.length:Int):=by
 intro q hq;unfold hG at hq;split at hq
 next ht=>rw[aeR hq];exact asI hl h hi ht
 .cases hq
def ajD(h0:0<=d)(h1:d<=10):∃n:Nat,AC d=(n:Int)/\n<2048:=by obtain⟨n,rfl⟩:=cj h0;have:n<=10:=Fn;have key:∀n,n<11->∃m:Nat,m<2048/\AC (n:Nat)=(m:Int):=XY;obtain⟨m,h2,h3⟩:=key n Fn;exact⟨m,h3,h2⟩
def atf:∀d,d<11->∀s,s<11->∃m:Nat,m<2048/\Ac .or .i64 (AC (d:Nat)) (AC (s:Nat))=(m:Int):=by decide +kernel
def atg:∀d,d<11->∃m:Nat,m<2048/\Ac .or .i64 (AC (d:Nat)) 0=(m:Int):=by decide +kernel
def asf:∀a,a<6->∃m:Nat,m<2048/\Ac .sub .i64 (Ac .shl .i64 1 (Ac .add .i64 (a:Nat) 1)) 2=(m:Int):=by decide +kernel
def amJ{x:Ins}(h:AL x=ZB):∃R:Nat,C7 x=(R:Int)/\R<2048:=by
 have b:=aZ h;obtain⟨d,hd⟩:∃d:Nat,x.d=d:=⟨x.d.toNat,by omega⟩
 obtain⟨s,hs⟩:∃s:Nat,x.s=s:=⟨x.s.toNat,by omega⟩
 have two:∃m:Nat,Ac .or .i64 (AC x.d) (if x.br=ZB then AC x.s else 0)=(m:Int)/\m<2048:=by
  rw[hd,hs];split
  .obtain⟨m,h1,h2⟩:=atf d Fn s Fn;exact⟨m,h2,h1⟩
  .obtain⟨m,h1,h2⟩:=atg d Fn;exact⟨m,h2,h1⟩
 unfold C7;rw[ae h];split
 .split
  .split
   .exact ajD b.2.2.1 b.2.2.2.1
   .exact⟨0,rfl,by decide⟩
  .exact two
 split
 .exact ajD b.2.2.1 b.2.2.2.1
 split
 .rw[hd,hs];obtain⟨m,h1,h2⟩:=atf d Fn s Fn;exact⟨m,h2,h1⟩
 split
 .exact two
 split
 .have:=bH x.imm;obtain⟨a,ha⟩:∃a:Nat,iD x.imm=a:=⟨(iD x.imm).toNat,by omega⟩
  rw[ha];obtain⟨m,h1,h2⟩:=asf a Fn;exact⟨m,h2,h1⟩
 split
 .exact⟨1,rfl,by decide⟩
 .exact⟨0,rfl,by decide⟩
structure Mem where
 b0:Int
 l0:LL
 w0:Bool
 b1:Int
 l1:LL
 w1:Bool
 b2:Int
 l2:LL
 w2:Bool
 b3:Int
 l3:LL
 w3:Bool
structure Act where
 dw:Int
 at_:Int
 n:Int
 v:Int
structure Mem.fit(m:Mem):Prop where
 b0:m.b0=1048576
 b1:m.b1=2097152
 b2:m.b2=3145728
 b3:m.b3=4194304
 w0:m.w0=ZC
 w1:m.w1=ZB
 w2:m.w2=ZB
 w3:m.w3=ZB
 l0:m.l0.length<=16384
 l1:m.l1.length<=256
 l2:m.l2.length=64
 l3:m.l3.length<=264
def inr(b:Int)(l:LL)(a n:Int):Bool:=decide (b<=a)&&decide (a-b+n<=(l.length:Int))
def Ce:LL->Int
 |[]=>0
 |x::r=>x.getD 0 0+256*Ce r
def BH(b:Int)(l:LL)(a n:Int):LL:=(l.drop (a-b).toNat).take n.toNat
def Mem.reg(m:Mem)(a n:Int):Int:=if inr m.b0 m.l0 a n then 1 else if inr m.b1 m.l1 a n then 2 else if inr m.b2 m.l2 a n then 3 else if inr m.b3 m.l3 a n then 4 else 0
def Fa(m:Mem)(a n:Int):Int:=if bc n then(if m.reg a n=0 then 20 else 0)else 2
def Ea(m:Mem)(a n:Int):Int:=if bc n then
 (if inr m.b0 m.l0 a n then Ce (BH m.b0 m.l0 a n)else if inr m.b1 m.l1 a n then Ce (BH m.b1 m.l1 a n)else if inr m.b2 m.l2 a n then Ce (BH m.b2 m.l2 a n)else if inr m.b3 m.l3 a n then Ce (BH m.b3 m.l3 a n)else 0)else 0
def R9(h:Aj .u64 a=ZB):0<=a/\a<=18446744073709551615:=by have:=bl.1 h;simpa[IntKind.min,IntKind.max,ZQ,YS]using this
def av1(h:Aj .u8 v=ZB):0<=v/\v<=255:=by have:=bl.1 h;simpa[IntKind.min,IntKind.max,ZQ,YS]using this
def Jp(h0:0<=a)(h1:a<=18446744073709551615):ZG .u64 a=a:=pN (bl.2 (by simp[IntKind.min,IntKind.max,ZQ,YS];omega))
def Gl(h0 : -9223372036854775808<=a)(h1:a<=9223372036854775807):ZG .i64 a=a:=pN (bl.2 (by simp[IntKind.min,IntKind.max,ZQ,YS];omega))
def lz(h:bc n=ZB):n=1\/n=2\/n=4\/n=8:=by simpa[bc]using h
def TP(h:RowsIn [ZA .u8] l){r:List Int}(hr:r∈l):∃x,r=[x]/\0<=x/\x<=255:=by
 have h1:=h.row r hr;have h3:=cn h1
 match r,h1,h3 with
 |[x],h1,_=>have h2:=av1 (v:=x) (by simpa[aq,CV]using h1);exact⟨x,rfl,h2.1,h2.2⟩
def ajr(h:RowsIn [ZA .u8] l)(i:Int):0<=gt l i 0/\gt l i 0<=255:=by
 unfold gt;rw[bh (l:=l)];cases hq:l[i.toNat]? with
 |none=>exact⟨Int.le_refl _,by decide⟩
 |some r=>obtain⟨x,rfl,h1,h2⟩:=TP h (ew hq);exact⟨h1,h2⟩
def zI:∀{l:LL},RowsIn [ZA .u8] l->0<=Ce l/\Ce l<256 ^ l.length
 |[],_=>⟨Int.le_refl _,by decide⟩
 |r::l,h=>by obtain⟨x,rfl,h1,h2⟩:=TP h bG;have ih:=zI (l:=l) ⟨fun r hr=>h.row r (cm _ hr),by have:=h.len;simp at this;omega⟩;rw[YM,Int.pow_succ];simp only[Ce,List.getD_cons_zero];omega
def aqx(h0:0<=v)(h1:v<72057594037927936)(h2:0<=b)(h3:b<=255):Ac .or .u64 (Ac .shl .u64 v 8) b=b+256*v:=by
 have e1:Ac .shl .u64 v 8=v*256:=by show IntKind.u64.wrap (v*2 ^ min (8:Int).toNat 64)=_;rw[show min (8:Int).toNat 64=8 from rfl];exact Jp Fn Fn
 rw[e1];obtain⟨n,rfl⟩:=cj h0;obtain⟨m,rfl⟩:=cj h2;have h:256*n+m=256*n ||| m:=Nat.two_pow_add_eq_or_of_lt (i:=8) Fn n;show bits .or .u64 _ _=_;rw[show((n:Int)*256)=((256*n:Nat):Int)from by omega,u64_or_nat _ _ Fn Fn,<-h];omega
def wZ(h:RowsIn ks l)(n:Nat):RowsIn ks (l.take n):=⟨fun r hr=>h.row r (List.mem_of_mem_take hr),by have:=h.len;rw[YQ];omega⟩
def mr(h:RowsIn ks l)(n:Nat):RowsIn ks (l.drop n):=⟨fun r hr=>h.row r (List.mem_of_mem_drop hr),by have:=h.len;rw[ZV];omega⟩
structure Win(b:Int)(l:LL)(a n:Int):Prop where
 sub:Ac .sub .u64 a b=a-b
 cv:ZG .i64 (a-b)=a-b
 add:Ac .add .i64 (a-b) n=a-b+n
 win:(l.take (a-b+n).toNat).drop (a-b).toNat=BH b l a n
 len:(BH b l a n).length=n.toNat
 lo:0<=a-b
 hi:a-b+n<=(l.length:Int)
 n1:1<=n
 n8:n<=8
def Win.of(h:inr b l a n=ZB)(ha:Aj .u64 a=ZB)(hb:0<=b)(hl:l.length<=1048576)(hn:1<=n)(hn8:n<=8):Win b l a n:=by
 simp only[inr,ne,ax]at h;have h2:=R9 ha;have AE:(BH b l a n).length=n.toNat:=by unfold BH;rw[YQ,ZV];omega
 refine⟨Jp Fn Fn,Gl Fn Fn,Gl Fn Fn,?_,AE,by omega,h.2,hn,hn8⟩;unfold BH;rw[List.drop_take,show(a-b+n).toNat-(a-b).toNat=n.toNat by omega]
def xQ(h:decide (a<b)=ZB):ZB = !inr b l a n:=by have:=Ae h;simp only[inr];rw[fB (by omega:¬b<=a)];rfl
def qS(ha:Aj .u64 a=ZB)(hb:0<=b)(hn:1<=n)(h1:decide (a<b)=ZC)(hl:l.length<=1048576)(h:decide (ZG .u64 (l.length:Int)<Ac .sub .u64 a b)=ZB):ZB = !inr b l a n:=by have h1:=Af h1;have ha:=R9 ha;have h2:=Ae h;rw[Jp Fn Fn,show Ac .sub .u64 a b=a-b from Jp Fn Fn]at h2;simp only[inr];rw[fB (by omega:¬a-b+n<=(l.length:Int)),Bool.and_false];rfl
def mT(ha:Aj .u64 a=ZB)(hb:0<=b)(hn:1<=n)(hn8:n<=8)(h1:decide (a<b)=ZC)(hl:l.length<=1048576)(h:decide (ZG .u64 (l.length:Int)<Ac .sub .u64 a b)=ZC):decide (Ac .sub .u64 (ZG .u64 (l.length:Int)) (Ac .sub .u64 a b)<n) = !inr b l a n:=by
 have h1:=Af h1;have ha:=R9 ha;have h2:=Af h;rw[Jp (a:=(l.length:Int)) Fn Fn,show Ac .sub .u64 a b=a-b from Jp Fn Fn]at h2 ⊢;rw[show Ac .sub .u64 (l.length:Int) (a-b)=l.length-(a-b)from Jp Fn Fn];simp only[inr];rw[cP (by omega:b<=a),Bool.true_and];by_cases h3:a-b+n<=(l.length:Int)
 .rw[cP h3,fB Fn];rfl
 .rw[fB h3,cP Fn];rfl
def Win.byte(h:Win b l a n)(hl:l.length<=1048576)(hk:k<n.toNat):Ac .add .i64 (a-b) (k:Int)=a-b+k/\(BH b l a n)[k]? =l[(a-b+k).toNat]? :=by obtain⟨_,_,_,_,_,h6,h7,h8,h9⟩:=h;refine⟨Gl Fn Fn,?_⟩;unfold BH;rw[List.getElem?_take_of_lt hk,List.getElem?_drop];congr 1;omega
def Win.step(h:Win b l a n)(hl:l.length<=1048576)(hr:RowsIn [ZA .u8] l)(hk:k<n.toNat):
  Ac .or .u64 (Ac .shl .u64 (Ce ((BH b l a n).drop (k+1))) 8) (ZG .u64 (gt l (Ac .add .i64 (a-b) (k:Int)) 0))=Ce ((BH b l a n).drop k):=by
 obtain⟨h1,h2⟩:=h.byte hl hk;have hw:RowsIn [ZA .u8] (BH b l a n):=wZ (mr hr _) _;have Hj:k<(BH b l a n).length:=by rw[h.len];exact hk
 rw[h1];have hg:gt l (a-b+k) 0=((BH b l a n)[k]).getD 0 0:=by unfold gt;rw[bh (l:=l),<-h2,Az Hj];rfl
 have hb:=ajr hr (a-b+k);have hd:=zI (mr hw (k+1));have AE:((BH b l a n).drop (k+1)).length<=7:=by rw[ZV,h.len];have:=h.n8;omega
 have hp:(256:Int) ^ ((BH b l a n).drop (k+1)).length<=256 ^ 7:=by
  have e:∀k:Nat,(256:Int) ^ k=((256 ^ k:Nat):Int):=fun k=>by rw[Int.natCast_pow];rfl
  rw[e,e];exact Int.ofNat_le.2 (YY Os AE)
 rw[Jp hb.1 Fn,aqx hd.1 Fn hb.1 hb.2,List.drop_eq_getElem_cons Hj,Ce,<-hg]
def Q7{x:Int}(h0 : -1000000000000<=x)(h1:x<=1000000000000):Ac .sub .i64 x 1=x-1:=Gl Fn Fn
def Win.init(h:Win b l a n):[Dt.z 0,Dt.z (Ac .sub .i64 (((l.take (Ac .add .i64 (ZG .i64 (Ac .sub .u64 a b)) n).toNat).drop (Ac .sub .u64 a b).toNat).length:Int) 1)]=[Dt.z (Ce ((BH b l a n).drop n.toNat)),Dt.z ((n.toNat:Int)-1)]:=by have h8:=h.n8;have h1:=h.n1;rw[h.sub,h.cv,h.add,h.win,h.len,List.drop_eq_nil_of_le (by rw[h.len];exact YJ _),Q7 Fn Fn];rfl
def Win.next(h:Win b l a n)(hl:l.length<=1048576)(hr:RowsIn [ZA .u8] l)(hk:k+1<=n.toNat):
  (∃j:Nat,[Dt.z (Ac .or .u64 (Ac .shl .u64 (Ce ((BH b l a n).drop (k+1))) 8) (ZG .u64 (gt l (Ac .add .i64 (a-b) (((k+1:Nat):Int)-1)) 0))),Dt.z (Ac .sub .i64 (((k+1:Nat):Int)-1) 1)]=[Dt.z (Ce ((BH b l a n).drop j)),Dt.z ((j:Int)-1)]/\j<=n.toNat)/\(Ac .sub .i64 (((k+1:Nat):Int)-1) 1+1).toNat<(((k+1:Nat):Int)-1+1).toNat:=by
 have h8:=h.n8;have e:((k+1:Nat):Int)-1=(k:Int):=Fn;rw[e,h.step hl hr Fn,Q7 Fn Fn];exact⟨⟨k,rfl,by omega⟩,by omega⟩
def Mem.Row(m:Mem)(b:Int)(l:LL):Prop:=(b=m.b0/\l=m.l0)\/(b=m.b1/\l=m.l1)\/(b=m.b2/\l=m.l2)\/(b=m.b3/\l=m.l3)
def jY:inr b l a n=ZB↔b<=a/\a-b+n<=(l.length:Int):=by simp[inr]
def gz(h:¬(b<=a/\a-b+n<=(l.length:Int))):inr b l a n=ZC:=by
 cases hq:inr b l a n with
 |false=>rfl
 |true=>exact ak (jY.1 hq) h
structure Mem.Lim(m:Mem):Prop where
 b0:m.b0=1048576
 b1:m.b1=2097152
 b2:m.b2=3145728
 b3:m.b3=4194304
 l0:m.l0.length<=16384
 l1:m.l1.length<=256
 l2:m.l2.length=64
 l3:m.l3.length<=264
def Mem.fit.lim{m:Mem}(h:m.fit):m.Lim:=⟨h.b0,h.b1,h.b2,h.b3,h.l0,h.l1,h.l2,h.l3⟩
def as8{m:Mem}(hf:m.Lim)(h:m.Row b l)(hi:inr b l a n=ZB)(hs:bc n=ZB):Fa m a n=0/\Ea m a n=Ce (BH b l a n):=by
 have A6:=jY.1 hi;have hn:=lz hs;obtain⟨e0,e1,e2,e3,g0,g1,g2,g3⟩:=hf;rcases h with⟨rfl,rfl⟩|⟨rfl,rfl⟩|⟨rfl,rfl⟩|⟨rfl,rfl⟩
 .simp[Fa,Ea,Mem.reg,hs,hi]
 .have f0:inr m.b0 m.l0 a n=ZC:=gz Fn;simp[Fa,Ea,Mem.reg,hs,hi,f0]
 .have f0:inr m.b0 m.l0 a n=ZC:=gz Fn;have f1:inr m.b1 m.l1 a n=ZC:=gz Fn;simp[Fa,Ea,Mem.reg,hs,hi,f0,f1]
 .have f0:inr m.b0 m.l0 a n=ZC:=gz Fn;have f1:inr m.b1 m.l1 a n=ZC:=gz Fn;have f2:inr m.b2 m.l2 a n=ZC:=gz Fn;simp[Fa,Ea,Mem.reg,hs,hi,f0,f1,f2]
def Mem.Row.lim{m:Mem}(hf:m.Lim)(h:m.Row b l):0<=b/\b<=4194304/\l.length<=16384:=by obtain⟨e0,e1,e2,e3,g0,g1,g2,g3⟩:=hf;rcases h with⟨rfl,rfl⟩|⟨rfl,rfl⟩|⟨rfl,rfl⟩|⟨rfl,rfl⟩<;>omega
def ahe(n:Nat)(hn:n<=maxLen):RowsIn [ZA .u8] (YK n [0]):=⟨fun r hr=>by rw[List.eq_of_mem_replicate hr];rfl,by rw[List.length_replicate];exact hn⟩
def NS(y c f s:LL):Mem:=⟨1048576,y,ZC,2097152,c,ZB,3145728,f,ZB,4194304,s,ZB⟩
def SW(v:Int)(k:Nat):Int:=ZG .u8 (Ac .shr .u64 v (Ac .mul .i64 8 (k:Int)))
def putL(l:LL)(o:Nat)(v:Int):Nat->LL
 |0=>l
 |k+1=>st (putL l o v k) ((o+k:Nat):Int) 0 (SW v k)
def dg(l:LL)(o:Nat)(v:Int):∀k,(putL l o v k).length=l.length
 |0=>rfl
 |k+1=>by rw[putL,nG,dg l o v k]
def awr(hr:RowsIn [ZA .u8] l)(hi:i<l.length)(x:Int)(j:Nat):gt (st l (i:Int) 0 x) (j:Int) 0=if j=i then x else gt l (j:Int) 0:=by
 unfold gt st;simp only[cy];rw[bh (l:=List.set _ _ _),dY];by_cases h:i=j
 .subst h;rw[ae rfl,ae hi,ae rfl,Option.getD_some,bh (l:=l),Az hi,Option.getD_some];obtain⟨z,hz,_,_⟩:=TP hr (List.getElem_mem hi);rw[hz];rfl
 .rw[aa h,aa (Ne.symm h),<-bh]
def ams(v:Int)(k:Nat):Aj .u8 (SW v k)=ZB:=pw _ _
def mG{l:LL}(hr:RowsIn [ZA .u8] l)(o:Nat)(v:Int):∀k,RowsIn [ZA .u8] (putL l o v k)
 |0=>hr
 |k+1=>afH (ks:=[ZA .u8]) (c:=0) rfl (ams v k) (mG hr o v k) _
def aiQ{l:LL}(hr:RowsIn [ZA .u8] l)(o:Nat)(v:Int)(j:Nat):∀k,o+k<=l.length->gt (putL l o v k) (j:Int) 0=if o<=j/\j<o+k then SW v (j-o)else gt l (j:Int) 0
 |0,_=>by rw[aa Fn];rfl
 |k+1,h=>by
   rw[putL,awr (mG hr o v k) (by rw[dg];omega),aiQ hr o v j k Fn];by_cases h1:j=o+k
   .rw[ae h1,ae Fn,h1,Nat.add_sub_cancel_left]
   .rw[aa h1];by_cases h2:o<=j/\j<o+k
    .rw[ae h2,ae Fn]
    .rw[aa h2,aa Fn]
structure LimB(X:Nat)(y c f s:LL):Prop where
 x:X<=256
 y:y.length<=16384
 c:c.length=X
 f:f.length=64
 s:s.length=264
def LimB.fit{X:Nat}{y c f s:LL}(h:LimB X y c f s):(NS y c f s).fit:=⟨rfl,rfl,rfl,rfl,rfl,rfl,rfl,rfl,h.y,by have:=h.c;have:=h.x;show c.length<=256;omega,h.f,by have:=h.s;show s.length<=264;omega⟩
def ML(op l a b:Int):Int:=if BT op l=ZB then BI op l a b else 0
def xS(cc l a b:Int):Bool:=DQ cc l&&lh cc l a b
def aV(x:Ins):Int:=
 if x.k=0\/x.k=3 then(if x.br=ZB then Ac .or .i64 (if x.k=3\/x.op≠11 then AC x.d else 0) (AC x.s)else if x.k=3\/x.op≠11 then AC x.d else 0)
 else if x.k=2 then Ac .or .i64 (AC x.d) (AC x.s)
 else if x.k=1 then AC x.s
 else if x.k=5 then Ac .sub .i64 (Ac .shl .i64 1 (Ac .add .i64 (iD x.imm) 1)) 2
 else if x.k=6 then 1 else 0
structure Ms where
 rg:List Int
 st:Int
 pc:Int
 an:LL
 tr:LL
 cx:LL
 fm:LL
def Ms.mem(m:Ms):Mem:=NS [] m.cx m.fm []
def Ms.r(m:Ms)(i:Int):Int:=m.rg.getD i.toNat 0
def Ms.sec(m:Ms)(x:Ins):Int:=if x.br=ZB then m.r x.s else IntKind.u64.wrap x.imm
def Ms.set(m:Ms)(i v:Int):Ms:={m with rg:=m.rg.set i.toNat v,st:=Ac .or .i64 m.st (AC i)}
def Gm(a off:Int):Int:=Ac .add .u64 a (ZG .u64 off)
def Fc(rg:List Int)(n:Int):LL:=((rg.map fun v=>[v]).take (Ac .add .i64 1 n).toNat).drop (1:Int).toNat
def SQ(rg:List Int)(num ans n:Int):List Int:=[num,ans,ZG .i64 ((Fc rg n).length:Int),gt (Fc rg n) 0 0,gt (Fc rg n) 1 0,gt (Fc rg n) 2 0,gt (Fc rg n) 3 0,gt (Fc rg n) 4 0]
def G7(st:Int):Int:=Ac .andNot .i64 (Ac .andNot .i64 (Ac .andNot .i64 (Ac .andNot .i64 (Ac .andNot .i64 (Ac .or .i64 st 1) 2) 4) 8) 16) 32
def Ms.call(m:Ms)(x:Ins):Ms:={m with rg:=[gt m.an 0 0,0,0,0,0,0]++m.rg.drop 6,st:=G7 m.st,an:=m.an.drop (1:Int).toNat,tr:=m.tr++[SQ m.rg x.imm (gt m.an 0 0) (iD x.imm)]}
def Jn(m:Ms)(a n v:Int):LL:=if inr 2097152 m.cx a n then putL m.cx (a-2097152).toNat v n.toNat else m.cx
def Hw(m:Ms)(a n v:Int):LL:=if inr 3145728 m.fm a n then putL m.fm (a-3145728).toNat v n.toNat else m.fm
def EL(m:Ms)(a n:Int):Bool:=inr 2097152 m.cx a n||inr 3145728 m.fm a n
def lI(m:Ms)(x:Ins):Int:=
 if Ac .andNot .i64 (aV x) m.st≠0 then 3
 else if x.k=1 then(if Fa m.mem (Gm (m.r x.s) x.off) (ZG .i64 x.sz)=0 then 0 else 3)
 else if x.k=2 then(if EL m (Gm (m.r x.d) x.off) (ZG .i64 x.sz)=ZB then 0 else 3)
 else if x.k=5 then(if m.an.length=0 then 2 else 0)
 else if x.k=6 then 1 else 0
def dv(m:Ms)(x:Ins):Ms:=
 if x.k=0 then m.set x.d (ML x.op x.w (m.r x.d) (m.sec x))
 else if x.k=1 then m.set x.d (Ea m.mem (Gm (m.r x.s) x.off) (ZG .i64 x.sz))
 else if x.k=2 then {m with cx:=Jn m (Gm (m.r x.d) x.off) (ZG .i64 x.sz) (m.r x.s),fm:=Hw m (Gm (m.r x.d) x.off) (ZG .i64 x.sz) (m.r x.s)}
 else if x.k=5 then m.call x else m
def ET(m:Ms)(x:Ins):Int:=if x.k=4\/(x.k=3/\xS x.op 64 (m.r x.d) (m.sec x)=ZB)then(AD m.pc x).1 else Ac .add .i64 m.pc 1
def halt(p:Prog)(m:Ms):Int:=lI m (ab p.l m.pc)
def De(p:Prog)(m:Ms):Ms:={dv m (ab p.l m.pc)with pc:=ET m (ab p.l m.pc)}
def exec(p:Prog):Nat->Ms->Int×Int×Ms
 |0,m=>(0,0,m)
 |f+1,m=>if halt p m=0 then exec p f (De p m)else(halt p m,(f:Int),m)
def Jy(cx an:LL):Ms:=⟨[0,2097152,0,0,0,0,0,0,0,0,3145792],1026,0,an,[],cx,YK (64:Int).toNat [0]⟩
structure Out where
 kind:Int
 r0:Int
 ctx:LL
 tr:LL
 left:Int
def rN(z:Int×Int×Ms):Out:=⟨z.1,if z.1=1 then z.2.2.r 0 else 0,z.2.2.cx,z.2.2.tr,z.2.1⟩
def out0:Out:=⟨0,0,[],[],0⟩
def jS(p:Prog)(cx:LL)(fu:Int):Int:=
 if(aH p).2≠0 then(aH p).2
 else if(cx.length:Int)≠p.ctx\/fu<0\/10000<fu then 2
 else 0
def Cm(p:Prog)(cx an:LL)(fu:Int):Out×Int:=if jS p cx fu≠0 then(out0,jS p cx fu)else(rN (exec p fu.toNat (Jy cx an)),0)
def avt{r0 r1 r2 r3 r4 r5 r6 r7 r8 r9 r10:Int}(h0:0<=d)(h1:d<=10):
  [if(d==0)=ZB then v else r0,if(d==1)=ZB then v else r1,if(d==2)=ZB then v else r2,if(d==3)=ZB then v else r3,if(d==4)=ZB then v else r4,if(d==5)=ZB then v else r5,if(d==6)=ZB then v else r6,if(d==7)=ZB then v else r7,if(d==8)=ZB then v else r8,if(d==9)=ZB then v else r9,if(d==10)=ZB then v else r10]=[r0,r1,r2,r3,r4,r5,r6,r7,r8,r9,r10].set d.toNat v:=by
 have hd:d=0\/d=1\/d=2\/d=3\/d=4\/d=5\/d=6\/d=7\/d=8\/d=9\/d=10:=Fn;rcases hd with rfl|rfl|rfl|rfl|rfl|rfl|rfl|rfl|rfl|rfl|rfl<;>rfl
def msD(ds:List Dt)(o:Nat):Ms:=⟨[dI ds (o+1),dI ds (o+2),dI ds (o+3),dI ds (o+4),dI ds (o+5),dI ds (o+6),dI ds (o+7),dI ds (o+8),dI ds (o+9),dI ds (o+10),dI ds (o+11)],dI ds (o+12),dI ds (o+77),dL ds (o+79),dL ds (o+80),dL ds (o+81),dL ds (o+82)⟩
structure RunAt(p:Prog)(cx an:LL)(fu:Int)(left:Int)(m:Ms):Prop where
 lo:0<=left
 hi:left<=fu
 rn:exec p fu.toNat (Jy cx an)=exec p left.toNat m
 pc0:0<=m.pc
 pc1:m.pc<(p.l.length:Int)
 fm:m.fm.length=64
 cxl:m.cx.length=cx.length
 tr:(m.tr.length:Int)+left<=fu
def RunAt.init{p:Prog}(h0:0<=fu)(hl:1<=p.l.length):RunAt p cx an fu fu (Jy cx an):=⟨h0,Int.le_refl _,rfl,Int.le_refl _,by show(0:Int)<_;omega,List.length_replicate,rfl,by show(0:Int)+fu<=fu;omega⟩
def arS{p:Prog}{m:Ms}(h:0<left)(hh:halt p m=0):exec p left.toNat m=exec p (left-1).toNat (De p m):=by rw[show left.toNat=(left-1).toNat+1 by omega];simp only[exec,hh,aW]
def ame{p:Prog}{m:Ms}(h:0<left)(hh:halt p m≠0):exec p left.toNat m=(halt p m,left-1,m):=by rw[show left.toNat=(left-1).toNat+1 by omega];simp only[exec,aa hh];rw[Int.toNat_of_nonneg Fn]
def amd{p:Prog}{m:Ms}(h0:0<=left)(h:¬0<left):exec p left.toNat m=(0,0,m):=by rw[show left.toNat=0 by omega];rfl
def afJ(m:Ms)(a n v:Int):(Jn m a n v).length=m.cx.length:=by
 unfold Jn;split
 .rw[dg]
 .rfl
def afI(m:Ms)(a n v:Int):(Hw m a n v).length=m.fm.length:=by
 unfold Hw;split
 .rw[dg]
 .rfl
def aes(m:Ms)(x:Ins):(dv m x).cx.length=m.cx.length/\(dv m x).fm.length=m.fm.length/\((dv m x).tr.length<=m.tr.length+1):=by
 unfold dv;split
 .exact Ym
 .split
  .exact Ym
  .split
   .exact⟨afJ _ _ _ _,afI _ _ _ _,Nat.le_succ _⟩
   .split
    .exact⟨rfl,rfl,by simp[Ms.call]⟩
    .exact Ym
def atd{p:Prog}(hp:p.l.length<=maxLen)(Ai:(aH p).2=0){m:Ms}(h0:0<=m.pc)(h1:m.pc<(p.l.length:Int))(hh:halt p m=0):0<=ET m (ab p.l m.pc)/\ET m (ab p.l m.pc)<(p.l.length:Int):=by
 obtain⟨⟨hl,n1,Tu⟩,AX,Gd⟩:=bj hp Ai;obtain⟨n,hn⟩:∃n:Nat,m.pc=(n:Int):=⟨m.pc.toNat,by omega⟩
 have hb:=AX n Fn;rw[<-hn]at hb;unfold gJ at hb;split at hb
 .cases hb
 .rename_i I7;split at hb
  .cases hb
  .rename_i hto;have I7:AL (ab p.l m.pc)=ZB:=by simpa using I7
   have hd:=aZ I7;generalize hx:ab p.l m.pc=x at *;unfold ET;split
   .rename_i hk;have BZ:x.k=3\/x.k=4:=by
     rcases hk with hk|hk
     .exact .inr hk
     .exact .inl hk.1
    have hy:(AD m.pc x).2=ZB:=by rw[R7 BZ (by rw[ne,ax,ax];omega) (by rw[ne,ax,ax];omega)]
    have:=fun h=>hto ⟨hy,h⟩;have h9:(decide (0<=(AD m.pc x).1)&&decide ((AD m.pc x).1<=p.last))=ZB:=by simpa using this
    rw[ne,ax,ax]at h9;omega
   .rename_i hk;have e1:Ac .add .i64 m.pc 1=m.pc+1:=Gl Fn Fn;rw[e1];refine⟨by omega,?_⟩;rcases Int.lt_or_le (m.pc+1) p.l.length with h2|h2
    .exact h2
    .exfalso;have h3:m.pc=p.last:=Fn;rw[<-h3,hx]at Gd;rcases Gd with h4|h4
     .exact hk (.inl h4)
     .unfold halt lI at hh;rw[hx]at hh;split at hh
      .cases hh
      .simp[h4]at hh
def RunAt.go{p:Prog}{Fs:Int}{m m':Ms}(h:RunAt p cx an fu left m)(hp:p.l.length<=maxLen)(Ai:(aH p).2=0)(hf:fu<=10000)(hl:0<left)(hh:halt p m=0)(hm:m'=De p m)(he:Fs=Ac .sub .i64 left 1):
  RunAt p cx an fu Fs m'/\Fs.toNat<left.toNat:=by
 have e1:Ac .sub .i64 left 1=left-1:=by have:=h.hi;exact Gl Fn Fn
 subst hm;rw[he,e1];obtain⟨k1,k2,k3⟩:=aes m (ab p.l m.pc);obtain⟨q1,q2⟩:=atd hp Ai h.pc0 h.pc1 hh;refine⟨⟨by omega,by have:=h.hi;omega,h.rn.trans (arS hl hh),q1,q2,?_,?_,?_⟩,by omega⟩
 .exact k2.trans h.fm
 .exact k1.trans h.cxl
 .have:=h.tr;show((dv m (ab p.l m.pc)).tr.length:Int)+(left-1)<=fu;omega
def aus{p:Prog}{m:Ms}(h:Ac .andNot .i64 (aV (ab p.l m.pc)) m.st≠0):halt p m=3:=by unfold halt lI;rw[ae h]
def qU{p:Prog}{m:Ms}(h:Ac .andNot .i64 (aV (ab p.l m.pc)) m.st=0)(hk:(ab p.l m.pc).k=0\/(ab p.l m.pc).k=3\/(ab p.l m.pc).k=4):halt p m=0:=by unfold halt lI;rw[aa (by simp[h]),aa Fn,aa Fn,aa Fn,aa Fn]
def anZ{p:Prog}{m:Ms}(h:Ac .andNot .i64 (aV (ab p.l m.pc)) m.st=0)(hk:(ab p.l m.pc).k=1):halt p m=if Fa m.mem (Gm (m.r (ab p.l m.pc).s) (ab p.l m.pc).off) (ZG .i64 (ab p.l m.pc).sz)=0 then 0 else 3:=by unfold halt lI;rw[aa (by simp[h]),ae hk]
def anY{p:Prog}{m:Ms}(h:Ac .andNot .i64 (aV (ab p.l m.pc)) m.st=0)(hk:(ab p.l m.pc).k=2):halt p m=if EL m (Gm (m.r (ab p.l m.pc).d) (ab p.l m.pc).off) (ZG .i64 (ab p.l m.pc).sz)=ZB then 0 else 3:=by unfold halt lI;rw[aa (by simp[h]),aa Fn,ae hk]
def an0{p:Prog}{m:Ms}(h:Ac .andNot .i64 (aV (ab p.l m.pc)) m.st=0)(hk:(ab p.l m.pc).k=5):halt p m=if m.an.length=0 then 2 else 0:=by unfold halt lI;rw[aa (by simp[h]),aa Fn,aa Fn,ae hk]
def anX{p:Prog}{m:Ms}(h:Ac .andNot .i64 (aV (ab p.l m.pc)) m.st=0)(hk:(ab p.l m.pc).k=6):halt p m=1:=by unfold halt lI;rw[aa (by simp[h]),aa Fn,aa Fn,aa Fn,ae hk]
def aiM{p:Prog}{m:Ms}(h:Ac .andNot .i64 (aV (ab p.l m.pc)) m.st=0)(hk:(ab p.l m.pc).k=1)(hr:Fa m.mem (Gm (m.r (ab p.l m.pc).s) (ab p.l m.pc).off) (ZG .i64 (ab p.l m.pc).sz)=0):halt p m=0:=by rw[anZ h hk,ae hr]
def arJ{p:Prog}{m:Ms}(h:Ac .andNot .i64 (aV (ab p.l m.pc)) m.st=0)(hk:(ab p.l m.pc).k=1)(hr:Fa m.mem (Gm (m.r (ab p.l m.pc).s) (ab p.l m.pc).off) (ZG .i64 (ab p.l m.pc).sz)≠0):halt p m=3:=by rw[anZ h hk,aa hr]
def TF{p:Prog}{m:Ms}(h:Ac .andNot .i64 (aV (ab p.l m.pc)) m.st=0)(hk:(ab p.l m.pc).k=2)(ha:Gm (m.r (ab p.l m.pc).d) (ab p.l m.pc).off=a)(hn:ZG .i64 (ab p.l m.pc).sz=n)(hr:EL m a n=ZB):halt p m=0:=by rw[anY h hk,ha,hn,ae hr]
def arI{p:Prog}{m:Ms}(h:Ac .andNot .i64 (aV (ab p.l m.pc)) m.st=0)(hk:(ab p.l m.pc).k=2)(ha:Gm (m.r (ab p.l m.pc).d) (ab p.l m.pc).off=a)(hn:ZG .i64 (ab p.l m.pc).sz=n)(hr:EL m a n=ZC):halt p m=3:=by rw[anY h hk,ha,hn,aa (by rw[hr];decide)]
def aiO{p:Prog}{m:Ms}(h:Ac .andNot .i64 (aV (ab p.l m.pc)) m.st=0)(hk:(ab p.l m.pc).k=5)(hr:m.an.length≠0):halt p m=0:=by rw[an0 h hk,aa hr]
def aiN{p:Prog}{m:Ms}(h:Ac .andNot .i64 (aV (ab p.l m.pc)) m.st=0)(hk:(ab p.l m.pc).k=5)(hr:m.an.length=0):halt p m=2:=by rw[an0 h hk,ae hr]
def PN{m':Ms}{st pc:Int}{r0 r1 r2 r3 r4 r5 r6 r7 r8 r9 r10:Int}{tr fm:LL}(h:m'=⟨[r0,r1,r2,r3,r4,r5,r6,r7,r8,r9,r10].set d.toNat v,st,pc,an,tr,cx,fm⟩)(h0:0<=d)(h1:d<=10):
  (⟨[if(d==0)=ZB then v else r0,if(d==1)=ZB then v else r1,if(d==2)=ZB then v else r2,if(d==3)=ZB then v else r3,if(d==4)=ZB then v else r4,if(d==5)=ZB then v else r5,if(d==6)=ZB then v else r6,if(d==7)=ZB then v else r7,if(d==8)=ZB then v else r8,if(d==9)=ZB then v else r9,if(d==10)=ZB then v else r10],st,pc,an,tr,cx,fm⟩:Ms)=m':=by
 rw[h,avt h0 h1]
def V4{p:Prog}{m:Ms}(hk:(ab p.l m.pc).k=0):De p m=⟨m.rg.set (ab p.l m.pc).d.toNat (ML (ab p.l m.pc).op (ab p.l m.pc).w (m.r (ab p.l m.pc).d) (m.sec (ab p.l m.pc))),Ac .or .i64 m.st (AC (ab p.l m.pc).d),Ac .add .i64 m.pc 1,m.an,m.tr,m.cx,m.fm⟩:=by unfold De dv ET;rw[ae hk,aa Fn];rfl
def atw{p:Prog}{m:Ms}(hk:(ab p.l m.pc).k=1):De p m=⟨m.rg.set (ab p.l m.pc).d.toNat (Ea m.mem (Gm (m.r (ab p.l m.pc).s) (ab p.l m.pc).off) (ZG .i64 (ab p.l m.pc).sz)),Ac .or .i64 m.st (AC (ab p.l m.pc).d),Ac .add .i64 m.pc 1,m.an,m.tr,m.cx,m.fm⟩:=by unfold De dv ET;rw[aa Fn,ae hk,aa Fn];rfl
def atv{p:Prog}{m:Ms}(hk:(ab p.l m.pc).k=2)(ha:Gm (m.r (ab p.l m.pc).d) (ab p.l m.pc).off=a)(hn:ZG .i64 (ab p.l m.pc).sz=n)(hv:m.r (ab p.l m.pc).s=v):De p m=⟨m.rg,m.st,Ac .add .i64 m.pc 1,m.an,m.tr,Jn m a n v,Hw m a n v⟩:=by subst ha hn hv;unfold De dv ET;rw[aa Fn,aa Fn,ae hk,aa Fn]
def atu{p:Prog}{m:Ms}(hk:(ab p.l m.pc).k=3):De p m=⟨m.rg,m.st,if xS (ab p.l m.pc).op 64 (m.r (ab p.l m.pc).d) (m.sec (ab p.l m.pc))=ZB then(AD m.pc (ab p.l m.pc)).1 else Ac .add .i64 m.pc 1,m.an,m.tr,m.cx,m.fm⟩:=by
 unfold De dv ET;rw[aa Fn,aa Fn,aa Fn,aa Fn];congr 1;by_cases h:xS (ab p.l m.pc).op 64 (m.r (ab p.l m.pc).d) (m.sec (ab p.l m.pc))=ZB
 .rw[ae (.inr ⟨hk,h⟩),ae h]
 .rw[aa (by rintro (h1|h1);omega;exact h h1.2),aa h]
def ats{p:Prog}{m:Ms}(hk:(ab p.l m.pc).k=3)(h:xS (ab p.l m.pc).op 64 (m.r (ab p.l m.pc).d) (m.sec (ab p.l m.pc))=ZB):De p m=⟨m.rg,m.st,(AD m.pc (ab p.l m.pc)).1,m.an,m.tr,m.cx,m.fm⟩:=by rw[atu hk,ae h]
def att{p:Prog}{m:Ms}(hk:(ab p.l m.pc).k=3)(h:xS (ab p.l m.pc).op 64 (m.r (ab p.l m.pc).d) (m.sec (ab p.l m.pc))=ZC):De p m=⟨m.rg,m.st,Ac .add .i64 m.pc 1,m.an,m.tr,m.cx,m.fm⟩:=by rw[atu hk,aa (by rw[h];decide)]
def avC{p:Prog}{m:Ms}(hk:(ab p.l m.pc).k=4):De p m=⟨m.rg,m.st,(AD m.pc (ab p.l m.pc)).1,m.an,m.tr,m.cx,m.fm⟩:=by unfold De dv ET;rw[aa Fn,aa Fn,aa Fn,aa Fn,ae (.inl hk)]
def avB{p:Prog}{m:Ms}(hk:(ab p.l m.pc).k=5):De p m={m.call (ab p.l m.pc)with pc:=Ac .add .i64 m.pc 1}:=by unfold De dv ET;rw[aa Fn,aa Fn,aa Fn,ae hk,aa Fn]
def mI{p:Prog}{m:Ms}(ho:jS p cx fu=0)(h:RunAt p cx an fu left m)(hf:fu<=10000)(hl:0<left){k:Int}(hh:halt p m=k)(hk:k≠0):
  Cm p cx an fu=(⟨k,if k=1 then m.r 0 else 0,m.cx,m.tr,Ac .sub .i64 left 1⟩,0):=by
 have e1:Ac .sub .i64 left 1=left-1:=by have:=h.hi;exact Gl Fn Fn
 unfold Cm;rw[aa (by simp[ho]),h.rn,ame hl (by rw[hh];exact hk),e1,hh];rfl
def alx{p:Prog}{m:Ms}(ho:jS p cx fu=0)(h:RunAt p cx an fu left m)(hl:¬0<left):
  Cm p cx an fu=(⟨0,0,m.cx,m.tr,left⟩,0):=by
 have e0:left=0:=by have:=h.lo;omega
 subst e0;unfold Cm;rw[aa (by simp[ho]),h.rn,amd h.lo hl];rfl
def zE{p:Prog}(h0:(aH p).2=0)(h1:(cx.length:Int)=p.ctx)(h2:0<=fu)(h3:fu<=10000):jS p cx fu=0:=by unfold jS;rw[aa (by simp[h0]),aa Fn]
def uS{p:Prog}(h:jS p cx fu=e)(he:e≠0):Cm p cx an fu=(⟨0,0,[],[],0⟩,e):=by unfold Cm;rw[ae (by rw[h];exact he),h];rfl
def zF{p:Prog}(h0:(aH p).2=0)(h1:(cx.length:Int)≠p.ctx\/fu<0\/10000<fu):jS p cx fu=2:=by unfold jS;rw[aa (by simp[h0]),ae h1]
def alq{p:Prog}(h0:(aH p).2≠0):jS p cx fu=(aH p).2:=by unfold jS;rw[ae h0]
def putS(W:Win b l a n)(hl:l.length<=1048576)(v:Int)(hk:k<n.toNat):
  st (putL l (a-b).toNat v k) (Ac .add .i64 (a-b) (k:Int)) 0 (ZG .u8 (Ac .shr .u64 v (Ac .mul .i64 8 (k:Int))))=putL l (a-b).toNat v (k+1):=by
 rw[(W.byte hl hk).1];have:=W.lo;rw[show a-b+(k:Int)=(((a-b).toNat+k:Nat):Int) by omega];rfl
def Q1(hk:k<8):Ac .mul .i64 8 (k:Int)=((8*k:Nat):Int):=by show IntKind.i64.wrap (8*(k:Int))=_;rw[Gl Fn Fn];omega
def KR(h:i<m)(hm:m<=maxLen):Ac .add .i64 (i:Int) 1=((i+1:Nat):Int):=by have:maxLen<=9223372036854775807:=Os;rw[show Ac .add .i64 (i:Int) 1=(i:Int)+1 from Gl Fn Fn];omega
def qT{p:Prog}(h:(aH p).2=0):0<=p.ctx/\p.ctx<=256:=by
 unfold aH at h;split at h
 .exact ST
 .rename_i hc;have hc:(decide (0<=p.ctx)&&decide (p.ctx<=256))=ZB:=by simpa using hc
  simpa using hc
def xD{p:Prog}(hp:p.l.length<=maxLen)(Ai:(aH p).2=0){i:Int}(h0:0<=i)(h1:i<(p.l.length:Int)):AL (ab p.l i)=ZB:=by
 obtain⟨_,AX,_⟩:=bj hp Ai;obtain⟨n,rfl⟩:=cj h0;have hb:=AX n Fn;unfold gJ at hb;split at hb
 .cases hb
 next h=>simpa using h
def av3{pc:Int}(h:AL (ab l pc)=ZB):0<=gt l pc 5/\gt l pc 5<=10/\0<=gt l pc 6/\gt l pc 6<=10 /\ -32768<=gt l pc 7/\gt l pc 7<=32767/\0<=gt l pc 0/\gt l pc 0<=6:=aZ h
def adz{x:Ins}(h:AL x=ZB)(hk:x.k=1\/x.k=2):bc (ZG .i64 x.sz)=ZB:=by
 have hs:bc x.sz=ZB:=by
  unfold AL cE at h;rcases hk with hk|hk<;>simp[hk]at h
  .exact h.2.1.1
  .exact h.2.1
 have:=lz hs;rw[Gl Fn Fn];exact hs
def an5{c f:LL}(hc:c.length<=256)(hf:f.length=64):(NS [] c f []).fit:=⟨rfl,rfl,rfl,rfl,rfl,rfl,rfl,rfl,by show 0<=_;omega,hc,hf,by show 0<=_;omega⟩
def qR(h:1<=n):inr b [] a n=ZC:=by
 unfold inr;by_cases h1:b<=a
 .rw[cP h1,fB (by show¬a-b+n<=0;omega)];rfl
 .rw[fB h1];rfl
def wI:∀n:Nat,n<2048->∀m:Nat,m<11->Lt (n:Int) (m:Int)=n.testBit m:=by decide +kernel
def auS:∀n:Nat,n<2048->0<=G7 (n:Int)/\(G7 (n:Int)).toNat<2048/\∀j:Nat,j<11->(G7 (n:Int)).toNat.testBit j=(decide (j=0)||(decide (5<j)&&n.testBit j)):=by decide +kernel
def rE:∀d:Nat,d<11->AC (d:Int)=((2 ^ d:Nat):Int):=by decide +kernel
def Mg{a b:Nat}(ha:a<2048)(hb:b<2048):Ac .or .i64 (a:Int) (b:Int)=((a ||| b:Nat):Int):=by
 have h:a ||| b<2 ^ 11:=Nat.or_lt_two_pow ha hb;rw[xo];show(ZJ 64 a ||| BitVec.ofInt 64 b).toInt=_;rw[BitVec.ofInt_natCast,BitVec.ofInt_natCast,<-BitVec.ofNat_or];have e:(BitVec.ofNat 64 (a ||| b)).toNat=a ||| b:=by rw[BitVec.toNat_ofNat];exact Nat.mod_eq_of_lt Fn
 rw[BitVec.toInt_eq_toNat_of_lt (by rw[e];omega),e]
def asj{a b:Nat}(ha:a<2048)(h:∀j:Nat,j<11->a.testBit j=ZB->b.testBit j=ZB):Ac .andNot .i64 (a:Int) (b:Int)=0:=by
 rw[nY];show(ZJ 64 a &&& ~~~ ZJ 64 b).toInt=0;rw[BitVec.ofInt_natCast,BitVec.ofInt_natCast];have e:(BitVec.ofNat 64 a &&& ~~~ BitVec.ofNat 64 b)=0#64:=BitVec.eq_of_getLsbD_eq fun i hi=>by
  simp only[BitVec.getLsbD_and,BitVec.getLsbD_not,BitVec.getLsbD_ofNat,BitVec.getLsbD_zero,hi,decide_true,Bool.true_and];by_cases h1:i<11
  .cases e:a.testBit i with
   |false=>simp
   |true=>rw[h i h1 e];simp
  .rw[Nat.testBit_lt_two_pow (nD ha (YY Os Fn:2 ^ 11<=2 ^ i))];simp
 rw[e];rfl
def eb(m:Ms):Snap:=⟨m.r 0,m.r 1,m.r 2,m.r 3,m.r 4,m.r 5,m.r 6,m.r 7,m.r 8,m.r 9,m.r 10,m.st,gt m.fm 0 0,gt m.fm 1 0,gt m.fm 2 0,gt m.fm 3 0,gt m.fm 4 0,gt m.fm 5 0,gt m.fm 6 0,gt m.fm 7 0,gt m.fm 8 0,gt m.fm 9 0,gt m.fm 10 0,gt m.fm 11 0,gt m.fm 12 0,gt m.fm 13 0,gt m.fm 14 0,gt m.fm 15 0,gt m.fm 16 0,gt m.fm 17 0,gt m.fm 18 0,gt m.fm 19 0,gt m.fm 20 0,gt m.fm 21 0,gt m.fm 22 0,gt m.fm 23 0,gt m.fm 24 0,gt m.fm 25 0,gt m.fm 26 0,gt m.fm 27 0,gt m.fm 28 0,gt m.fm 29 0,gt m.fm 30 0,gt m.fm 31 0,gt m.fm 32 0,gt m.fm 33 0,gt m.fm 34 0,gt m.fm 35 0,gt m.fm 36 0,gt m.fm 37 0,gt m.fm 38 0,gt m.fm 39 0,gt m.fm 40 0,gt m.fm 41 0,gt m.fm 42 0,gt m.fm 43 0,gt m.fm 44 0,gt m.fm 45 0,gt m.fm 46 0,gt m.fm 47 0,gt m.fm 48 0,gt m.fm 49 0,gt m.fm 50 0,gt m.fm 51 0,gt m.fm 52 0,gt m.fm 53 0,gt m.fm 54 0,gt m.fm 55 0,gt m.fm 56 0,gt m.fm 57 0,gt m.fm 58 0,gt m.fm 59 0,gt m.fm 60 0,gt m.fm 61 0,gt m.fm 62 0,gt m.fm 63 0⟩
def awu(m:Ms):S7 (eb m)=(List.range 64).map fun k:Nat=>gt m.fm (k:Int) 0:=by kernel_rfl
def ny(m:Ms){i:Int}(h0:0<=i)(h1:i<=63):dk (eb m) i=gt m.fm i 0:=by rw[<-arP (eb m) h0 h1,awu,bh,iO,List.getElem?_range Fn];show gt m.fm ((i.toNat:Nat):Int) 0=_;rw[Int.toNat_of_nonneg h0]
structure WM(p:Prog)(m:Ms):Prop where
 rl:m.rg.length=11
 rv:∀v∈m.rg,0<=v/\v<=18446744073709551615
 st:∃n:Nat,m.st=(n:Int)/\n<2048
 an:RowsIn [ZA .u64] m.an
 cx:RowsIn [ZA .u8] m.cx
 cl:(m.cx.length:Int)=p.ctx
 fm:RowsIn [ZA .u8] m.fm
 fl:m.fm.length=64
def WM.r{p:Prog}{m:Ms}(h:WM p m)(i:Int):0<=m.r i/\m.r i<=18446744073709551615:=by
 unfold Ms.r;rw[bh];cases e:m.rg[i.toNat]? with
 |none=>exact⟨Int.le_refl _,by decide⟩
 |some v=>exact h.rv v (ew e)
def xr(x:Snap)(j:Nat):Int:=[x.r0,x.r1,x.r2,x.r3,x.r4,x.r5,x.r6,x.r7,x.r8,x.r9,x.r10].getD j 0
def abe(s:Sta)(x:Snap):EJ s x=ZB↔AV s=ZB/\(∀j:Nat,j<=10->rok x.set j (Al s j) (xr x j)=ZB)/\∀k:Nat,k<=7->bm (nI s k) (bU x k)=ZB:=by
 unfold EJ;simp only[ne];constructor
 .intro⟨h,a0,a1,a2,a3,a4,a5,a6,a7,a8,a9,a10,b0,b1,b2,b3,b4,b5,b6,b7⟩;refine⟨h,fun j hj=> ?_,fun k hk=> ?_⟩
  .have:j=0\/j=1\/j=2\/j=3\/j=4\/j=5\/j=6\/j=7\/j=8\/j=9\/j=10:=by omega
   rcases this with rfl|rfl|rfl|rfl|rfl|rfl|rfl|rfl|rfl|rfl|rfl
   all_goals first|exact a0|exact a1|exact a2|exact a3|exact a4|exact a5|exact a6|exact a7|exact a8|exact a9|exact a10
  .have:k=0\/k=1\/k=2\/k=3\/k=4\/k=5\/k=6\/k=7:=by omega
   rcases this with rfl|rfl|rfl|rfl|rfl|rfl|rfl|rfl
   all_goals first|exact b0|exact b1|exact b2|exact b3|exact b4|exact b5|exact b6|exact b7
 .intro⟨h,a,b⟩;exact⟨h,a 0 Fn,a 1 Fn,a 2 Fn,a 3 Fn,a 4 Fn,a 5 Fn,a 6 Fn,a 7 Fn,a 8 Fn,a 9 Fn,a 10 Fn,b 0 Fn,b 1 Fn,b 2 Fn,b 3 Fn,b 4 Fn,b 5 Fn,b 6 Fn,b 7 Fn⟩
def SH(s:Sta)(m:Ms):Prop:=EJ s (eb m)=ZB
def Oa(m:Ms)(hj:j<=10):xr (eb m) j=m.r j:=by have:j=0\/j=1\/j=2\/j=3\/j=4\/j=5\/j=6\/j=7\/j=8\/j=9\/j=10:=Fn;rcases this with rfl|rfl|rfl|rfl|rfl|rfl|rfl|rfl|rfl|rfl|rfl<;>rfl
def hC(s:Sta)(m:Ms):SH s m↔AV s=ZB/\(∀j:Nat,j<=10->rok m.st j (Al s j) (m.r j)=ZB)/\∀k:Nat,k<=7->bm (nI s k) (bU (eb m) k)=ZB:=by refine(abe s (eb m)).trans ⟨fun h=>⟨h.1,fun j hj=>Oa m hj▸h.2.1 j hj,h.2.2⟩,fun h=>⟨h.1,fun j hj=>(Oa m hj).symm▸h.2.1 j hj,h.2.2⟩⟩
def aaR(s:Sta)(d:Int)(t:Ty)(hj:j<=10):Al (BU s d t) j=D4 (d==(j:Int)) t (Al s j):=by have:j=0\/j=1\/j=2\/j=3\/j=4\/j=5\/j=6\/j=7\/j=8\/j=9\/j=10:=Fn;rcases this with rfl|rfl|rfl|rfl|rfl|rfl|rfl|rfl|rfl|rfl|rfl<;>rfl
def afK(s:Sta)(d:Int)(t:Ty)(k:Int):nI (BU s d t) k=nI s k:=rfl
def aa0{m m':Ms}(h:m'.fm=m.fm)(k:Nat):bU (eb m') k=bU (eb m) k:=by
 have e:∀m:Ms,bU (eb m) k=bU (eb ⟨[],0,0,[],[],[],m.fm⟩) k:=fun m=>by unfold bU eb;split<;>rfl
 rw[e m,e m',h]
def SH.may{s:Sta}{m:Ms}(h:SH s m):AV s=ZB:=((hC s m).1 h).1
def SH.reg{s:Sta}{m:Ms}(h:SH s m){j:Int}(h0:0<=j)(h1:j<=10):((Al s j).k=0\/Lt m.st j=ZB)/\bm (Al s j) (m.r j)=ZB:=by obtain⟨n,rfl⟩:=cj h0;have q:=((hC s m).1 h).2.1 n Fn;unfold rok at q;rw[ne,eu,cb]at q;exact q
def SH.set{s:Sta}{m:Ms}(h:SH s m){n:Nat}(hn:m.st=(n:Int))(Ap:n<2048)(hl:m.rg.length=11)(d0:0<=d)(d1:d<=10){t:Ty}(ht:bm t v=ZB)(hm:AV (BU s d t)=ZB):SH (BU s d t) (m.set d v):=by
 obtain⟨e,rfl⟩:=cj d0;obtain⟨_,h2,h3⟩:=(hC s m).1 h;refine(hC _ _).2 ⟨hm,fun j hj=> ?_,fun k hk=> ?_⟩
 .have Em:(m.set (e:Int) v).st=((n ||| 2 ^ e:Nat):Int):=by
   show Ac .or .i64 m.st (AC (e:Int))=_;rw[hn,rE e Fn,Mg Ap (Nat.pow_lt_pow_right Os (by omega:e<11))]
  have hlt2:n ||| 2 ^ e<2048:=Nat.or_lt_two_pow (n:=11) Ap (Nat.pow_lt_pow_right Os Fn);rw[aaR s _ t hj,Em];have q:=h2 j hj;rw[hn]at q;unfold rok at q ⊢;rw[wI _ Ap _ Fn]at q;rw[wI _ hlt2 _ Fn,Nat.testBit_or,Nat.testBit_two_pow];by_cases c:e=j
  .subst c;rw[show((e:Int)==(e:Int))=ZB from beq_self_eq_true _,amP];rw[show(m.set (e:Int) v).r (e:Int)=v by
    show(m.rg.set e v).getD e 0=v;rw[bh,List.getElem?_set_self Fn];rfl,ht]
   simp
  .rw[show((e:Int)==(j:Int))=ZC from jq.2 Fn,amQ];rw[show(m.set (e:Int) v).r (j:Int)=m.r j by
    show(m.rg.set e v).getD j 0=m.rg.getD j 0;rw[bh,nE c,<-bh]]
   rw[ne,eu]at q ⊢;exact⟨q.1.imp_right fun h=>by rw[h];rfl,q.2⟩
 .rw[afK,aa0 (m':=m.set (e:Int) v) (m:=m) rfl];exact h3 k hk
def mh{p:Prog}(hl:p.l.length<=maxLen)(h:(aH p).2=0)(hi:i<p.l.length){s:Sta}:∀q∈(bA p i s).1,0<=q.1/\q.1<(p.l.length:Int):=by
 intro q hq;unfold bA at hq;split at hq
 .cases hq
 .split at hq
  .rcases ZS.1 hq with hq|hq
   .exact yA hl h hi q hq
   .exact aeN hl h hi q hq
  .cases hq
def aeV{p:Prog}:∀(n:Nat) (last:Int) (r:VR),(jo p n last r).2.2.2=0->(jo p n last r).1.length=p.l.length/\(jo p n last r).2.1.length=p.l.length:=by
 have hd:∀T,(lV p T).1.length=p.l.length/\(lV p T).2.1.length=p.l.length:=fun T=>by simp[lV]
 intro n
 induction n with
 |zero=>
   intro last r h;by_cases hw:r.w=0
   .rw[iu hw];exact hd _
   .rw[lk hw]at h;cases h
 |succ n ih=>
   intro last r h;by_cases hw:r.w=0
   .rw[iu hw];exact hd _
   .by_cases he:(bA p (CL r.w) (ap r.T (CL r.w))).2=0
    .rw[nB hw he]at h ⊢;exact ih _ _ h
    .rw[pQ hw he]at h;exact ak h he
def akd{p:Prog}(h:(AK p).2.2.2=0):(AK p).1.length=p.l.length/\(AK p).2.1.length=p.l.length:=by
 by_cases hk:(aH p).2=0
 .unfold AK at h ⊢;rw[ae hk]at h ⊢;exact aeV _ _ _ h
 .unfold AK at h;rw[aa hk]at h;exact ak h hk
structure GT(t:Ty):Prop where
 ok:BJ t=ZB
 wf:t.s.wf
def gt_nil:GT tnil:=⟨rfl,⟨⟨⟨by decide,by decide⟩,⟨by decide,by decide⟩,⟨by decide,by decide⟩,⟨by decide,by decide⟩⟩,⟨⟨by decide,by decide⟩,⟨by decide,by decide⟩⟩⟩⟩
def Mq(h:Bl s=ZB)(w:s.wf):GT (DH s):=⟨by
 unfold BJ;rw[aa (show¬(DH s).k=0 by show¬(1:Int)=0;decide),ae (show(DH s).k=1 from rfl)];show(Bl s&&_)=ZB;rw[h];rfl,w⟩
def akf:Bl vall=ZB:=by decide +kernel
def gt_scal:GT tscal:=Mq akf tQ
def aj9{t:Ty}(h:dZ t=ZB):t.s.wf:=by unfold dZ at h;simp only[ne,cb]at h;obtain⟨h1,h2,h3,h4,h5,h6⟩:=h;refine⟨⟨?_,?_,?_,?_⟩,⟨?_,?_⟩⟩<;>(first|(show _<=t.ul/\t.ul<=_;omega)|(show _<=t.uh/\t.uh<=_;omega)|(show _<=t.sl/\t.sl<=_;omega)|(show _<=t.sh/\t.sh<=_;omega)|(show _<=t.v/\t.v<=_;omega)|(show _<=t.m/\t.m<=_;omega))
def Ux{t:Ty}(hk:t.k=2\/t.k=3)(h:BJ t=ZB):GT t:=⟨h,aj9 (yI h hk).1⟩
def TG(w:s.wf):GT (DH (Ca s)):=Mq jD (pO w)
def aj8{a b:Sc}(ha:a.wf)(hb:b.wf):(if w=ZB then DC a b else jE a b).wf:=by
 split
 .unfold DC;split
  .exact pO (jl (aeJ (b:=b.r) ha.r) (km _ _))
  .exact tQ
 .unfold jE;split
  .exact pO (jl (aaD ha.r hb.r) (km _ _))
  .exact tQ
def cS{a b:Ty}(ha:GT a)(hb:GT b):GT (cN w a b):=by
 refine⟨uc ha.ok hb.ok,?_⟩;unfold cN eh;split
 .exact gt_nil.wf
 split
 .exact gt_scal.wf
 split
 .exact aj8 (w:=w) ha.wf hb.wf
 .exact gt_nil.wf
def amH{t:Int}(h:0<=t/\t<=18446744073709551615):(Hz t).wf:=pO (jl ⟨(⟨Int.le_refl 0,by show(0:Int)<=_;decide⟩:0<=(0:Int)/\(0:Int)<=18446744073709551615),h,fz.2.2.1,fz.2.2.2⟩ ⟨(⟨Int.le_refl 0,by show(0:Int)<=_;decide⟩:0<=(0:Int)/\(0:Int)<=18446744073709551615),h⟩)
def sP(n:Int):GT (DH (C5 n)):=by refine Mq jD (amH ?_);have h:(min (max n 1) 8).toNat=1\/(min (max n 1) 8).toNat=2\/(min (max n 1) 8).toNat=3\/(min (max n 1) 8).toNat=4\/(min (max n 1) 8).toNat=5\/(min (max n 1) 8).toNat=6\/(min (max n 1) 8).toNat=7\/(min (max n 1) 8).toNat=8:=Fn;rcases h with h|h|h|h|h|h|h|h<;>rw[h]<;>decide
def aws{w:Int}{a b:Sc}(ha:a.wf)(hb:b.wf):GT (DH (G4 op w a b)):=by
 unfold G4;split
 .split
  .exact TG (jl (Rs ha.r hb.r) (Rr ha.k hb.k _ _))
  .split
   .exact TG (jl (aaB (nA ha) (nA hb)) (Rr (nA ha).k (nA hb).k _ _))
   .exact Mq jD (amH ⟨by decide,by decide⟩)
 .exact gt_scal
def an1{a b:Sc}(ha:a.wf)(hb:b.wf):GT (DH (Ev cc a b)):=by
 unfold Ev;split
 .refine TG (jl (yz ha.r hb.r) ?_);unfold TA;split
  .exact tT _ _
  .exact ha.k
 .exact gt_scal
def Xa{t:Ty}(h:GT t)(hp:Au t=ZC):t.s.sl<=t.s.sh:=by
 unfold Au at hp;rw[Bool.or_eq_false_iff]at hp;rcases mc h.ok with hk|hk|hk|hk
 .have q:=h.ok;unfold BJ at q;rw[ae hk]at q;unfold dZ at q;simp only[ne,cb]at q;show t.sl<=t.sh;omega
 .have q:=Rt (yJ h.ok hk);exact((dj _).1 q).2
 .rw[hk]at hp;simp at hp
 .rw[hk]at hp;simp at hp
def acE{t b:Ty}{q:Bool}(h:GT t)(hb:GT b)(hp:Au t=ZB)(Ds:Au b=ZC):GT (oA t b.s q):=by
 unfold oA;split
 .rename_i hc;obtain⟨c1,c2⟩:=hc;have hk:t.k=2\/t.k=3:=by
   unfold Au at hp;simpa using hp
  obtain⟨e1,e2,e3,e4⟩:=yI h.ok hk;have e5:=Xa hb Ds;rw[ne,ax,ax]at c1;have GB:(au t b.s q).lo<=(au t b.s q).hi:=by
   unfold au B3 B2;cases q
   .show IntKind.i64.wrap (t.lo+b.s.sl)<=ZG .i64 (t.hi+b.s.sh);rw[aK,aK];omega
   .show IntKind.i64.wrap (t.lo+ZG .i64 (0-b.s.sh))<=ZG .i64 (t.hi+ZG .i64 (0-b.s.sl));rw[aK,aK,aK,aK];omega
  refine Ux (t:=au t b.s q) hk ?_;unfold BK at c2;simp only[ne,ax]at c2;unfold BJ;have J4:¬(au t b.s q).k=0:=by show¬t.k=0;omega
  have EX:¬(au t b.s q).k=1:=by show¬t.k=1;omega
  rw[aa J4,aa EX,ae (show(au t b.s q).k=2\/(au t b.s q).k=3 from hk)];simp only[ne,ax];exact⟨e1,GB,c2.1.1,c2.2.2⟩
 .exact gt_scal
def auB{x:Ins}{a b:Ty}(ha:GT a)(hb:GT b):GT (Do x a b):=by
 unfold Do;split
 .exact hb
 have hA:GT (HN x a b):=by unfold HN;split<;>assumption
 have hB:GT (HO x b):=by
  unfold HO;split
  .exact Mq XY (tP ⟨by decide,by decide⟩)
  .exact hb
 unfold bf;split
 .exact aws hA.wf hB.wf
 rename_i hn;split
 next h=>refine acE hA hB ?_ h.2.1;rw[h.2.1]at hn;simpa using hn
 split
 next h=>refine acE hB hA ?_ h.2.1;rw[h.2.1]at hn;simpa using hn
 split
 .exact gt_scal
 .exact sP 4
structure GA(s:Sta):Prop where
 r0:GT s.r0
 r1:GT s.r1
 r2:GT s.r2
 r3:GT s.r3
 r4:GT s.r4
 r5:GT s.r5
 r6:GT s.r6
 r7:GT s.r7
 r8:GT s.r8
 r9:GT s.r9
 r10:GT s.r10
 s0:GT s.s0/\tset s.s0=ZB
 s1:GT s.s1/\tset s.s1=ZB
 s2:GT s.s2/\tset s.s2=ZB
 s3:GT s.s3/\tset s.s3=ZB
 s4:GT s.s4/\tset s.s4=ZB
 s5:GT s.s5/\tset s.s5=ZB
 s6:GT s.s6/\tset s.s6=ZB
 s7:GT s.s7/\tset s.s7=ZB
def GA.may{s:Sta}(h:GA s):AV s=ZB:=by unfold AV;rw[h.r0.ok,h.r1.ok,h.r2.ok,h.r3.ok,h.r4.ok,h.r5.ok,h.r6.ok,h.r7.ok,h.r8.ok,h.r9.ok,h.r10.ok,h.s0.2,h.s1.2,h.s2.2,h.s3.2,h.s4.2,h.s5.2,h.s6.2,h.s7.2];rfl
def gA{c:Bool}{t u:Ty}(h1:GT t)(h2:GT u):GT (D4 c t u):=by cases c;exact h2;exact h1
def GA.reg{s:Sta}(h:GA s){t:Ty}(ht:GT t)(d:Int):GA (BU s d t):=⟨gA ht h.r0,gA ht h.r1,gA ht h.r2,gA ht h.r3,gA ht h.r4,gA ht h.r5,gA ht h.r6,gA ht h.r7,gA ht h.r8,gA ht h.r9,gA ht h.r10,h.s0,h.s1,h.s2,h.s3,h.s4,h.s5,h.s6,h.s7⟩
def GA.nth{s:Sta}(h:GA s)(b0:0<=d)(b1:d<=10):GT (Al s d):=akk h.r0 h.r1 h.r2 h.r3 h.r4 h.r5 h.r6 h.r7 h.r8 h.r9 h.r10 b0 b1
def GA.slot{s:Sta}(h:GA s)(n:Int):GT (nI s n):=by unfold nI;split;exact h.s0.1;split;exact h.s1.1;split;exact h.s2.1;split;exact h.s3.1;split;exact h.s4.1;split;exact h.s5.1;split;exact h.s6.1;exact h.s7.1
def GA.load{s:Sta}(h:GA s)(lo hi z:Int):GT (oR s lo hi z):=by
 unfold oR;split
 .split
  .exact h.slot _
  .exact sP z
 .exact gt_nil
def GA.put{s:Sta}(h:GA s){t:Ty}(ht:GT t)(hs:tset t=ZB)(p:Int->Bool):GA (BA s p t):=by
 have q:∀(c:Bool) (u:Ty),(GT u/\tset u=ZB)->GT (if c=ZB then t else u)/\tset (if c=ZB then t else u)=ZB:=fun c u hu=>by
  cases c
  .exact hu
  .exact⟨ht,hs⟩
 exact⟨h.r0,h.r1,h.r2,h.r3,h.r4,h.r5,h.r6,h.r7,h.r8,h.r9,h.r10,q _ _ h.s0,q _ _ h.s1,q _ _ h.s2,q _ _ h.s3,q _ _ h.s4,q _ _ h.s5,q _ _ h.s6,q _ _ h.s7⟩
def GA.store{s:Sta}(h:GA s){z:Int}{t:Ty}(ht:GT t)(he:nJ s lo hi z t=0):GA (je s lo hi z t):=by
 unfold nJ at he;split at he
 .rename_i hc;unfold je;rw[ae hc];split
  .exact h.put ht hc.2 _
  .exact h.put gt_scal vR _
 .cases he
def GA.join{a b:Sta}(ha:GA a)(hb:GA b)(w:Bool):GA (iQ w a b):=by
 rw[(oC ha.may hb.may).1];exact⟨cS ha.r0 hb.r0,cS ha.r1 hb.r1,cS ha.r2 hb.r2,cS ha.r3 hb.r3,cS ha.r4 hb.r4,cS ha.r5 hb.r5,cS ha.r6 hb.r6,cS ha.r7 hb.r7,cS ha.r8 hb.r8,cS ha.r9 hb.r9,cS ha.r10 hb.r10,
  ⟨cS ha.s0.1 hb.s0.1,ff ha.s0.2 hb.s0.2⟩,⟨cS ha.s1.1 hb.s1.1,ff ha.s1.2 hb.s1.2⟩,⟨cS ha.s2.1 hb.s2.1,ff ha.s2.2 hb.s2.2⟩,⟨cS ha.s3.1 hb.s3.1,ff ha.s3.2 hb.s3.2⟩,⟨cS ha.s4.1 hb.s4.1,ff ha.s4.2 hb.s4.2⟩,⟨cS ha.s5.1 hb.s5.1,ff ha.s5.2 hb.s5.2⟩,⟨cS ha.s6.1 hb.s6.1,ff ha.s6.2 hb.s6.2⟩,⟨cS ha.s7.1 hb.s7.1,ff ha.s7.2 hb.s7.2⟩⟩
def GA.call{s:Sta}(h:GA s):GA (Pd s):=⟨gt_scal,gt_nil,gt_nil,gt_nil,gt_nil,gt_nil,h.r6,h.r7,h.r8,h.r9,h.r10,h.s0,h.s1,h.s2,h.s3,h.s4,h.s5,h.s6,h.s7⟩
def auA(v:Int):GT (DH (B7 (ZG .u64 v))):=by have h:0<=ZG .u64 v/\IntKind.u64.wrap v<=18446744073709551615:=Yy;exact Mq (eW (tW h)) (tP h)
def GA.b2{s:Sta}(h:GA s){x:Ins}(b0:0<=x.s)(b1:x.s<=10):GT (cA x s):=by
 unfold cA;split
 .exact h.nth b0 b1
 .exact auA _
def GA.mid{p:Prog}{x:Ins}{s:Sta}(h:GA s)(b0:0<=x.d)(b1:x.d<=10)(b2:0<=x.s)(b3:x.s<=10)(he:(BB p x s).2=0):GA (BB p x s).1:=by
 unfold BB at he ⊢;split
 .exact h.reg (auB (h.nth b0 b1) (h.b2 b2 b3)) _
 rename_i h0;rw[aa h0]at he;split
 .rename_i h1;rw[ae h1]at he;split
  .rename_i hw;rw[ae hw]at he;unfold Rj;split
   .exact(h.reg (sP _) _).reg (GA.load (h.reg (sP _) _) _ _ _) _
   .exact h.reg (sP _) _
  .exact h
 rename_i h1;rw[aa h1]at he;split
 .rename_i h2;rw[ae h2]at he;split
  .rename_i hw;rw[ae hw]at he;unfold Rn at he ⊢;split
   next h3=>rw[ae h3]at he;exact h.store (h.nth b2 b3) he
   .exact h
  .exact h
 split
 .exact h.call
 .exact h
def GA.way{s:Sta}(h:GA s){go:Int}{b:Ty}{t k:Bool}(b0:0<=d)(b1:d<=10)(hb:GT b):∀q∈CW s d (Al s d) b t go cc k,GA q.2:=by
 intro q hq;unfold CW at hq;split at hq
 .split at hq
  .rw[cV.1 hq];exact h.reg (an1 (h.nth b0 b1).wf hb.wf) _
  .cases hq
 .rw[cV.1 hq];exact h
def GA.sides{p:Prog}{i:Int}{s:Sta}(h:GA s)(hx:AL (ab p.l i)=ZB):∀q∈(bA p i s).1,GA q.2:=by
 obtain⟨b0,b1,b2,b3⟩:0<=(ab p.l i).d/\(ab p.l i).d<=10/\0<=(ab p.l i).s/\(ab p.l i).s<=10:=by have b:=aZ hx;exact⟨b.1,b.2.1,b.2.2.1,b.2.2.2.1⟩
 intro q hq;unfold bA at hq;split at hq
 .cases hq
 split at hq
 .rename_i he;have hm:=h.mid b0 b1 b2 b3 he;have hb:=h.b2 b2 b3;rcases ZS.1 hq with hq|hq
  .unfold gH at hq;split at hq
   .cases hq
   .exact hm.way b0 b1 hb q hq
  .unfold hG at hq;split at hq
   .exact hm.way b0 b1 hb q hq
   .cases hq
 .cases hq
def orZ(h0:0<=d)(h1:d<=10):Ac .or .i64 (AC d) 0=AC d/\Ac .or .i64 0 (AC d)=AC d:=by obtain⟨n,rfl⟩:=cj h0;have e:(2:Nat) ^ n<2048:=Nat.pow_lt_pow_right Os (by omega:n<11);rw[rE n Fn];exact⟨by rw[show(0:Int)=((0:Nat):Int)from rfl,Mg e Os,Nat.or_zero],by rw[show(0:Int)=((0:Nat):Int)from rfl,Mg Os e,Nat.zero_or]⟩
def anC{x:Ins}(hx:AL x=ZB):aV x=C7 x:=by obtain⟨d0,d1,s0,s1,_,_,k0,k6⟩:=aZ hx;unfold aV C7;rw[ae hx];have hk:x.k=0\/x.k=1\/x.k=2\/x.k=3\/x.k=4\/x.k=5\/x.k=6:=Fn;rcases hk with h|h|h|h|h|h|h<;>by_cases Gr:x.op=11<;>cases hb:x.br<;>simp[h,Gr,hb,(orZ d0 d1).1,(orZ s0 s1).2]
def alu{p:Prog}{x:Ins}{s:Sta}{m:Ms}(hx:AL x=ZB)(W:WM p m)(H:SH s m)(hu:fH s (C7 x).toNat=ZC):Ac .andNot .i64 (aV x) m.st=0:=by obtain⟨R,hR,K3⟩:=amJ hx;obtain⟨n,hn,Ap⟩:=W.st;rw[anC hx,hR,hn];rw[hR,cy]at hu;refine asj K3 fun j hj hb=> ?_;have q:=(H.reg (j:=(j:Int)) Fn Fn).1;have h0:=yE hu (d:=(j:Int)) Fn Fn (by rw[cy];exact hb);rw[hn,wI n Ap j hj]at q;exact q.resolve_left h0
def aqt{x:Ins}{s:Sta}(hx:AL x=ZB)(hk:x.k=0\/x.k=3)(hu:fH s (C7 x).toNat=ZC):((x.k=3\/x.op≠11)->(Al s x.d).k≠0)/\(x.br=ZB->(Al s x.s).k≠0):=by
 obtain⟨d0,d1,s0,s1,_⟩:=aZ hx;obtain⟨d,hd⟩:=cj d0;obtain⟨e,he⟩:=cj s0;have pd:(2:Nat) ^ d<2048:=Nat.pow_lt_pow_right Os (by omega:d<11);have pe:(2:Nat) ^ e<2048:=Nat.pow_lt_pow_right Os (by omega:e<11);rw[<-anC hx]at hu;have hw:aV x=(((if x.k=3\/x.op≠11 then 2 ^ d else 0) ||| (if x.br=ZB then 2 ^ e else 0):Nat):Int):=by
  unfold aV;rw[ae hk,hd,he,rE d Fn,rE e Fn];cases x.br with
  |true=>
    rw[ae rfl,ae rfl];by_cases c:x.k=3\/x.op≠11
    .rw[ae c,ae c,Mg pd pe]
    .rw[aa c,aa c,show(0:Int)=((0:Nat):Int)from rfl,Mg Os pe]
  |false=>
    simp only[ZY,dz,Nat.or_zero];by_cases c:x.k=3\/x.op≠11
    .rw[ae c,ae c]
    .rw[aa c,aa c];rfl
 rw[hw,cy]at hu;refine⟨fun c=>yE hu d0 d1 ?_,fun c=>yE hu s0 s1 ?_⟩
 .rw[hd,cy,Nat.testBit_or,ae c,Nat.testBit_two_pow];simp
 .rw[he,cy,Nat.testBit_or,ae c,Nat.testBit_two_pow];simp
def zf{p:Prog}{x:Ins}{s:Sta}{m:Ms}(hx:AL x=ZB)(W:WM p m)(H:SH s m):bm (cA x s) (m.sec x)=ZB/\0<=m.sec x/\m.sec x<=18446744073709551615:=by
 obtain⟨d0,d1,s0,s1,_⟩:=aZ hx;unfold Ms.sec;cases hb:x.br with
 |true=>rw[ae rfl];exact⟨asn hb (H.reg s0 s1).2,W.r _⟩
 |false=>rw[aa (by simp)];exact⟨aso hb,by rw[bg];omega⟩
def au4{p:Prog}{x:Ins}{s:Sta}{m:Ms}(hx:AL x=ZB)(hk:x.k=0)(W:WM p m)(G:GA s)(H:SH s m)(hu:fH s (C7 x).toNat=ZC):bm (Do x (Al s x.d) (cA x s)) (ML x.op x.w (m.r x.d) (m.sec x))=ZB:=by
 obtain⟨d0,d1,s0,s1,_⟩:=aZ hx;obtain⟨r1,r2⟩:=aqt hx (.inl hk) hu;obtain⟨q1,q2⟩:=zf hx W H;have ho:=acB hx hk;unfold ML;rw[ae ho];refine aeY (H.reg d0 d1).2 q1 (G.nth d0 d1).wf (G.b2 s0 s1).wf ho (fun c=>r1 (.inr c)) (fun _=> ?_) (W.r _) q2;unfold cA;split
 next hb=>exact r2 hb
 .show(1:Int)≠0;omega
def Ms.set_st{p:Prog}{m:Ms}(W:WM p m)(d0:0<=d)(d1:d<=10)(v:Int):∃n:Nat,(m.set d v).st=(n:Int)/\n<2048:=by obtain⟨n,hn,Ap⟩:=W.st;obtain⟨e,rfl⟩:=cj d0;have pe:(2:Nat) ^ e<2048:=Nat.pow_lt_pow_right Os (by omega:e<11);refine⟨n ||| 2 ^ e,?_,Nat.or_lt_two_pow (n:=11) Ap pe⟩;show Ac .or .i64 m.st (AC (e:Int))=_;rw[hn,rE e Fn,Mg Ap pe]
def WM.set{p:Prog}{m:Ms}(W:WM p m)(d0:0<=d)(d1:d<=10)(hv:0<=v/\v<=18446744073709551615):WM p (m.set d v):=⟨by show(m.rg.set _ _).length=11;rw[YU];exact W.rl,fun w hw=>(List.mem_or_eq_of_mem_set hw).elim (W.rv w) (fun e=>e▸hv),Ms.set_st W d0 d1 v,W.an,W.cx,W.cl,W.fm,W.fl⟩
def SH.sets{p:Prog}{s:Sta}{m:Ms}(W:WM p m)(H:SH s m)(d0:0<=d)(d1:d<=10){t:Ty}(ht:bm t v=ZB)(G:GA (BU s d t)):SH (BU s d t) (m.set d v):=by obtain⟨n,hn,Ap⟩:=W.st;exact H.set hn Ap W.rl d0 d1 ht G.may
def SH.pc{s:Sta}{m:Ms}(H:SH s m)(n:Int):SH s {m with pc:=n}:=H
def ar4{p:Prog}{x:Ins}{s:Sta}{m:Ms}(W:WM p m)(G:GA s)(H:SH s m)(ha:m.an.length≠0):SH (Pd s) (m.call x)/\WM p (m.call x):=by
 obtain⟨n,hn,Ap⟩:=W.st;obtain⟨_,h2,h3⟩:=(hC s m).1 H;have a0:0<=gt m.an 0 0/\gt m.an 0 0<=18446744073709551615:=R9 (Wh (fun r hr=>qv (W.an.row r hr) (c:=0) (k:=ZA .u64) rfl) 0);obtain⟨c1,c2,c3⟩:=auS n Ap;have Em:(m.call x).st=(((G7 (n:Int)).toNat:Nat):Int):=by show G7 m.st=_;rw[hn,Int.toNat_of_nonneg c1]
 refine⟨(hC _ _).2 ⟨G.call.may,fun j hj=> ?_,fun k hk=> ?_⟩,?_⟩
 .have q:=h2 j hj;rw[hn]at q;unfold rok at q ⊢;rw[wI _ Ap _ Fn]at q;rw[Em,wI _ c2 _ Fn,c3 j Fn];by_cases j6:5<j
  .have e1:(m.call x).r (j:Int)=m.r (j:Int):=by
    show([gt m.an 0 0,0,0,0,0,0]++m.rg.drop 6).getD j 0=m.rg.getD j 0;rw[bh,Bc Xz,List.getElem?_drop,<-bh];congr 1;simp;omega
   have e2:Al (Pd s) (j:Int)=Al s (j:Int):=by have:j=6\/j=7\/j=8\/j=9\/j=10:=Fn;rcases this with rfl|rfl|rfl|rfl|rfl<;>rfl
   rw[e1,e2,cP j6,fB (by omega:¬j=0),Bool.true_and,Bool.false_or];exact q
  .have:j=0\/j=1\/j=2\/j=3\/j=4\/j=5:=by omega
   rcases this with rfl|rfl|rfl|rfl|rfl|rfl
   .show((tscal.k==0||_)&&bm tscal (gt m.an 0 0))=ZB;rw[iy a0.1 a0.2];simp
   all_goals
    show((tnil.k==0||_)&&bm tnil 0)=ZB;rw[apN (by rfl) (by rfl)];rfl
 .show bm (nI s k) (bU (eb (m.call x)) k)=ZB;rw[aa0 (m':=m.call x) (m:=m) rfl];exact h3 k hk
 .refine⟨?_,fun v hv=> ?_,⟨_,Em,c2⟩,mr W.an _,W.cx,W.cl,W.fm,W.fl⟩
  .show([gt m.an 0 0,0,0,0,0,0]++m.rg.drop 6).length=11;rw[cQ,ZV,W.rl];rfl
  .rcases ZS.1 hv with hv|hv
   .simp at hv;rcases hv with rfl|rfl
    .exact a0
    .exact⟨Int.le_refl _,by decide⟩
   .exact W.rv v (List.mem_of_mem_drop hv)
end Go.Proofs.YtgolejfhoefeaabGreatDoor
