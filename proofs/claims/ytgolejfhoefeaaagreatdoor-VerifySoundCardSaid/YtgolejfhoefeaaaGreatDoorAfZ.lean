import Derived.Test.YtgolejfhoefeaaaGreatDoorAeZ
import Derived.Test.YtgolejfhoefeaaaGreatDoorChecked
import Derived.Shelf.Spec.TrailingZeros
import Derived.DeepKeys3
import Derived.Test.YtgolejfhoefeaaaGreatDoorProg
import Derived.Laws.Externs
set_option maxRecDepth 100000
set_option maxHeartbeats 8000000
set_option linter.defProp false
set_option linter.unusedVariables false
set_option linter.unusedSimpArgs false
namespace Go.Proofs.YtgolejfhoefeaaaGreatDoor
open Option renaming some->ZA,none->ZE
open Bool renaming true->ZB,false->ZC,not_eq_true'->ZO
open Nat renaming reduceAdd->ZD,reduceSub->ZH,le_refl->ZK,pow_le_pow_right->YU
open Go.Proofs.Tryz renaming prog->ZF
open Go.IntKind renaming wrap->ZG,signed->YT,bits->YW
open BitVec renaming ofInt->ZL
open List renaming replicate->ZM,cons_append->YO,nil_append->YP,append_nil->ZP,length_cons->YQ,flatMap_cons->ZQ,flatMap_nil->ZS,mem_append->ZY,length_take->YZ
open Go.Proofs.Tryz
open Go Go.RowKit
variable {v n a lo hi size b i d fu q left op e cc:Int}{l cx L ws an T:LL}{k m j R t:Nat}{w:Bool}{P:Program}{p q2:Prop}{s:Sc}{ks:List CE}{z:List C}{U σ:Env}
def w8(b0 b1 b2 b3 b4 b5 b6 b7:Int):Int:=b0+256*(b1+256*(b2+256*(b3+256*(b4+256*(b5+256*(b6+256*b7))))))
def fj(h:Ae .u8 v=ZB):0<=v/\v<=255:=by have:=bF.1 h;simpa[IntKind.min,IntKind.max,YT,YW]using this
def wO(s:Nat)(hs:s<=56)(h0:0<=v)(h1:v<2 ^ s)(h2:0<=b)(h3:b<=255):Ac .or .u64 v (Ac .shl .u64 b (s:Int))=v+b*2 ^ s:=by
 obtain⟨n,rfl⟩:=cj h0;obtain⟨m,rfl⟩:=cj h2;have hp:2 ^ s<=2 ^ 56:=YU Fn hs;have hc:(2:Int) ^ s=((2 ^ s:Nat):Int):=by rw[Int.natCast_pow];rfl
 have hm:m*2 ^ s<=255*2 ^ 56:=Nat.mul_le_mul Fn hp;have hp56:2 ^ 56=72057594037927936:=rfl;rw[hp56]at hp hm;have e1:Ac .shl .u64 (m:Int) (s:Int)=((m*2 ^ s:Nat):Int):=by show IntKind.u64.wrap ((m:Int)*2 ^ min ((s:Int)).toNat 64)=_;rw[show min ((s:Int)).toNat 64=s from by omega,aW,hc,<-Int.natCast_mul];exact Int.emod_eq_of_lt Fn Fn
 rw[e1,hc,<-Int.natCast_mul];rw[hc]at h1;have hn:n<2 ^ s:=Fn;show bits .or .u64 _ _=_;rw[u64_or_nat _ _ Fn Fn];have h:=Nat.two_pow_add_eq_or_of_lt hn m;rw[Nat.mul_comm m,Nat.or_comm,<-h,Int.natCast_add];omega
def qk(h0:0<=v)(h1:v<72057594037927936)(h2:0<=b)(h3:b<=255):Ac .or .u64 (Ac .shl .u64 v 8) b=b+256*v:=by
 have e1:Ac .shl .u64 v 8=v*256:=by show IntKind.u64.wrap (v*2 ^ min (8:Int).toNat 64)=_;rw[show min (8:Int).toNat 64=8 from rfl,aW];omega
 rw[e1];obtain⟨n,rfl⟩:=cj h0;obtain⟨m,rfl⟩:=cj h2;have h:256*n+m=256*n ||| m:=Nat.two_pow_add_eq_or_of_lt (i:=8) Fn n;show bits .or .u64 _ _=_;rw[show((n:Int)*256)=((256*n:Nat):Int)from by omega,u64_or_nat _ _ Fn Fn,<-h];omega
def jA{b0 b1 b2 b3 b4 b5 b6 b7:Int}(h0:Ae .u8 b0=ZB)(h1:Ae .u8 b1=ZB)(h2:Ae .u8 b2=ZB)(h3:Ae .u8 b3=ZB)(h4:Ae .u8 b4=ZB)(h5:Ae .u8 b5=ZB)(h6:Ae .u8 b6=ZB)(h7:Ae .u8 b7=ZB):
  Ac .or .u64 (Ac .or .u64 (Ac .or .u64 (Ac .or .u64 (Ac .or .u64 (Ac .or .u64 (Ac .or .u64 (Ac .or .u64 0 (Ac .shl .u64 b0 0)) (Ac .shl .u64 b1 8)) (Ac .shl .u64 b2 16)) (Ac .shl .u64 b3 24)) (Ac .shl .u64 b4 32)) (Ac .shl .u64 b5 40)) (Ac .shl .u64 b6 48)) (Ac .shl .u64 b7 56)=w8 b0 b1 b2 b3 b4 b5 b6 b7:=by
 have g0:=fj h0;have g1:=fj h1;have g2:=fj h2;have g3:=fj h3;have g4:=fj h4;have g5:=fj h5;have g6:=fj h6;have g7:=fj h7;have e0:=wO (v:=0) (b:=b0) 0 Fn Fn Fn g0.1 g0.2;have e1:=wO (v:=0+b0*2 ^ 0) (b:=b1) 8 Fn Fn Fn g1.1 g1.2;have e2:=wO (v:=0+b0*2 ^ 0+b1*2 ^ 8) (b:=b2) 16 Fn Fn Fn g2.1 g2.2;have e3:=wO (v:=0+b0*2 ^ 0+b1*2 ^ 8+b2*2 ^ 16) (b:=b3) 24 Fn Fn Fn g3.1 g3.2;have e4:=wO (v:=0+b0*2 ^ 0+b1*2 ^ 8+b2*2 ^ 16+b3*2 ^ 24) (b:=b4) 32 Fn Fn Fn g4.1 g4.2;have e5:=wO (v:=0+b0*2 ^ 0+b1*2 ^ 8+b2*2 ^ 16+b3*2 ^ 24+b4*2 ^ 32) (b:=b5) 40 Fn Fn Fn g5.1 g5.2;have e6:=wO (v:=0+b0*2 ^ 0+b1*2 ^ 8+b2*2 ^ 16+b3*2 ^ 24+b4*2 ^ 32+b5*2 ^ 40) (b:=b6) 48 Fn Fn Fn g6.1 g6.2;have e7:=wO (v:=0+b0*2 ^ 0+b1*2 ^ 8+b2*2 ^ 16+b3*2 ^ 24+b4*2 ^ 32+b5*2 ^ 40+b6*2 ^ 48) (b:=b7) 56 Fn Fn Fn g7.1 g7.2;simp only[show((0:Nat):Int)=0 from rfl,show((8:Nat):Int)=8 from rfl,show((16:Nat):Int)=16 from rfl,show((24:Nat):Int)=24 from rfl,show((32:Nat):Int)=32 from rfl,show((40:Nat):Int)=40 from rfl,show((48:Nat):Int)=48 from rfl,show((56:Nat):Int)=56 from rfl]at e0 e1 e2 e3 e4 e5 e6 e7;rw[e0,e1,e2,e3,e4,e5,e6,e7];unfold w8;omega
def dE{b0 b1 b2 b3 b4 b5 b6 b7:Int}(h0:Ae .u8 b0=ZB)(h1:Ae .u8 b1=ZB)(h2:Ae .u8 b2=ZB)(h3:Ae .u8 b3=ZB)(h4:Ae .u8 b4=ZB)(h5:Ae .u8 b5=ZB)(h6:Ae .u8 b6=ZB)(h7:Ae .u8 b7=ZB):
  Ac .or .u64 (Ac .shl .u64 (Ac .or .u64 (Ac .shl .u64 (Ac .or .u64 (Ac .shl .u64 (Ac .or .u64 (Ac .shl .u64 (Ac .or .u64 (Ac .shl .u64 (Ac .or .u64 (Ac .shl .u64 (Ac .or .u64 (Ac .shl .u64 (Ac .or .u64 0 b7) 8) b6) 8) b5) 8) b4) 8) b3) 8) b2) 8) b1) 8) b0=w8 b0 b1 b2 b3 b4 b5 b6 b7:=by
 have g0:=fj h0;have g1:=fj h1;have g2:=fj h2;have g3:=fj h3;have g4:=fj h4;have g5:=fj h5;have g6:=fj h6;have g7:=fj h7;have e7:Ac .or .u64 0 b7=b7:=by obtain⟨m,rfl⟩:=cj g7.1;show bits .or .u64 ((0:Nat):Int) _=_;rw[u64_or_nat _ _ Fn Fn,Nat.zero_or]
 rw[e7,qk g7.1 Fn g6.1 g6.2,qk Fn Fn g5.1 g5.2,qk Fn Fn g4.1 g4.2,qk Fn Fn g3.1 g3.2,qk Fn Fn g2.1 g2.2,qk Fn Fn g1.1 g1.2,qk Fn Fn g0.1 g0.2];rfl
def alU(v:Int):Ac .and .i64 v 1=v % 2:=by
 show bits .and .i64 v 1=_;unfold bits;simp only[YW];have h1:(ZL 64 v &&& ZL 64 1).toNat=(v % 2).toNat:=by rw[BitVec.toNat_and,show(ZL 64 1).toNat=1 from rfl,nat_mask1,BitVec.toNat_ofInt];have:(0:Int)<=v % (18446744073709551616:Int):=Int.emod_nonneg _ Fn;show(v % (18446744073709551616:Int)).toNat % 2=_;omega
 show IntKind.i64.wrap (((ZL 64 v &&& ZL 64 1).toNat:Nat):Int)=_;rw[h1,aT];omega
def Aw(h:Ae .u8 v=ZB):ZG .u64 v=v:=by have:=fj h;rw[aW];omega
def A6(set i:Int):Bool:=Ac .and .i64 (Ac .shr .i64 set i) 1==1
def bG(v:Int):(Ac .and .i64 v 1==0) = !(Ac .and .i64 v 1==1):=by rw[alU,ao];simp;omega
structure Snap where
 r0:Int
 r1:Int
 r2:Int
 r3:Int
 r4:Int
 r5:Int
 r6:Int
 r7:Int
 r8:Int
 r9:Int
 r10:Int
 set:Int
 f0:Int
 f1:Int
 f2:Int
 f3:Int
 f4:Int
 f5:Int
 f6:Int
 f7:Int
 f8:Int
 f9:Int
 f10:Int
 f11:Int
 f12:Int
 f13:Int
 f14:Int
 f15:Int
 f16:Int
 f17:Int
 f18:Int
 f19:Int
 f20:Int
 f21:Int
 f22:Int
 f23:Int
 f24:Int
 f25:Int
 f26:Int
 f27:Int
 f28:Int
 f29:Int
 f30:Int
 f31:Int
 f32:Int
 f33:Int
 f34:Int
 f35:Int
 f36:Int
 f37:Int
 f38:Int
 f39:Int
 f40:Int
 f41:Int
 f42:Int
 f43:Int
 f44:Int
 f45:Int
 f46:Int
 f47:Int
 f48:Int
 f49:Int
 f50:Int
 f51:Int
 f52:Int
 f53:Int
 f54:Int
 f55:Int
 f56:Int
 f57:Int
 f58:Int
 f59:Int
 f60:Int
 f61:Int
 f62:Int
 f63:Int
def be(x:Snap):Nat->Int
 |0=>w8 x.f0 x.f1 x.f2 x.f3 x.f4 x.f5 x.f6 x.f7
 |1=>w8 x.f8 x.f9 x.f10 x.f11 x.f12 x.f13 x.f14 x.f15
 |2=>w8 x.f16 x.f17 x.f18 x.f19 x.f20 x.f21 x.f22 x.f23
 |3=>w8 x.f24 x.f25 x.f26 x.f27 x.f28 x.f29 x.f30 x.f31
 |4=>w8 x.f32 x.f33 x.f34 x.f35 x.f36 x.f37 x.f38 x.f39
 |5=>w8 x.f40 x.f41 x.f42 x.f43 x.f44 x.f45 x.f46 x.f47
 |6=>w8 x.f48 x.f49 x.f50 x.f51 x.f52 x.f53 x.f54 x.f55
 |7=>w8 x.f56 x.f57 x.f58 x.f59 x.f60 x.f61 x.f62 x.f63
 |_=>0
def rok(set i:Int)(t:Ty)(v:Int):Bool:=(t.k==0||A6 set i)&&aU t v
def gH{set:Int}{t:Ty}(h:(t.k==0)=ZC)(h2:A6 set i=ZC):rok set i t v=ZC:=by unfold rok;rw[h,h2];rfl
def cm{set:Int}{t:Ty}(h2:aU t v=ZC):rok set i t v=ZC:=by unfold rok;rw[h2,au]
def gI{set:Int}{t:Ty}(h:(t.k==0)=ZB)(h2:aU t v=ZB):rok set i t v=ZB:=by unfold rok;rw[h,h2];rfl
def gG{set:Int}{t:Ty}(h:A6 set i=ZB)(h2:aU t v=ZB):rok set i t v=ZB:=by unfold rok;rw[h,h2,Bool.or_true];rfl
def Ar(s:Sta)(x:Snap):Bool:=Az s&&(rok x.set 0 s.r0 x.r0&&(rok x.set 1 s.r1 x.r1&&(rok x.set 2 s.r2 x.r2&&(rok x.set 3 s.r3 x.r3&&(rok x.set 4 s.r4 x.r4&&(rok x.set 5 s.r5 x.r5&&(rok x.set 6 s.r6 x.r6&&(rok x.set 7 s.r7 x.r7&&(rok x.set 8 s.r8 x.r8&&(rok x.set 9 s.r9 x.r9&&(rok x.set 10 s.r10 x.r10&&(aU s.s0 (be x 0)&&(aU s.s1 (be x 1)&&(aU s.s2 (be x 2)&&(aU s.s3 (be x 3)&&(aU s.s4 (be x 4)&&(aU s.s5 (be x 5)&&(aU s.s6 (be x 6)&&aU s.s7 (be x 7)))))))))))))))))))
def BL(s:Sta)(lo hi size:Int):Bool:=(size==1||(size==2||(size==4||size==8)))&&(decide (0<=lo)&&(decide (lo<=hi)&&(decide (hi<=Ac .sub .i64 64 size)&&Az s)))
def DX(lo hi size:Int):Bool:=(size==8)&&((lo==hi)&&(Ac .rem .i64 lo 8==0))
def nu(s:Sta)(n:Int):Ty:=if n=0 then s.s0 else if n=1 then s.s1 else if n=2 then s.s2 else if n=3 then s.s3 else if n=4 then s.s4 else if n=5 then s.s5 else if n=6 then s.s6 else s.s7
def oG(s:Sta)(lo hi size:Int):Ty:=if BL s lo hi size=ZB then(if DX lo hi size=ZB then nu s (Ac .quo .i64 lo 8)else ty 1 (Db size) 0 0)else tnil
def pF(s:Sta)(lo hi size:Int):Int:=if BL s lo hi size=ZB then 0 else 2
def BC(s:Sta)(p:Int->Bool)(t:Ty):Sta:={s with s0:=if p 0=ZB then t else s.s0,s1:=if p 1=ZB then t else s.s1,s2:=if p 2=ZB then t else s.s2,s3:=if p 3=ZB then t else s.s3,s4:=if p 4=ZB then t else s.s4,s5:=if p 5=ZB then t else s.s5,s6:=if p 6=ZB then t else s.s6,s7:=if p 7=ZB then t else s.s7}
def jd(s:Sta)(lo hi size:Int)(t:Ty):Sta:=if BL s lo hi size=ZB/\tset t=ZB then(if DX lo hi size=ZB then BC s (fun k=>k==Ac .quo .i64 lo 8) t else BC s (fun k=>decide (lo<8*k+8)&&decide (8*k<hi+size)) tscal)else J2
def nv(s:Sta)(lo hi size:Int)(t:Ty):Int:=if BL s lo hi size=ZB/\tset t=ZB then 0 else 2
def nz{s:Sta}(h:BL s lo hi size=ZB):Az s=ZB/\0<=lo/\lo<=hi/\hi+size<=64/\(size=1\/size=2\/size=4\/size=8):=by
 unfold BL at h;simp only[ne,fy,cQ,aE]at h;obtain⟨h1,h2,h3,h4,h5⟩:=h;have e:Ac .sub .i64 64 size=64-size:=by show IntKind.i64.wrap (64-size)=_;rw[aT];omega
 rw[e]at h4;exact⟨h5,h2,h3,by omega,by omega⟩
def O9(h0:0<=i)(h1:i<=64):Ac .quo .i64 i 8=i / 8:=by show IntKind.i64.wrap (i.tdiv 8)=_;rw[Int.tdiv_eq_ediv_of_nonneg h0,aT];omega
def rm{s:Sta}(h:BL s lo hi size=ZB):Ac .quo .i64 (Ac .sub .i64 (Ac .add .i64 hi size) 1) 8=(hi+size-1) / 8/\Ac .add .i64 hi size=hi+size:=by
 obtain⟨-,h1,h2,h3,h4⟩:=nz h;have e1:Ac .add .i64 hi size=hi+size:=by show IntKind.i64.wrap (hi+size)=_;rw[aT];omega
 have e2:Ac .sub .i64 (hi+size) 1=hi+size-1:=by show IntKind.i64.wrap (hi+size-1)=_;rw[aT];omega
 rw[e1,e2];exact⟨O9 Fn Fn,rfl⟩
def aaz{s:Sta}(h:BL s lo hi size=ZC):oG s lo hi size=tnil/\pF s lo hi size=2:=by unfold oG pF;rw[h];exact⟨rfl,rfl⟩
def nA{s:Sta}(h:BL s lo hi size=ZB)(h1:DX lo hi size=ZC):oG s lo hi size=ty 1 (Db size) 0 0/\pF s lo hi size=0:=by unfold oG pF;rw[h,h1];exact⟨rfl,rfl⟩
def bQ{s:Sta}(h:BL s lo hi size=ZB)(h1:DX lo hi size=ZB):oG s lo hi size=nu s (Ac .quo .i64 lo 8)/\pF s lo hi size=0:=by unfold oG pF;rw[h,h1];exact⟨rfl,rfl⟩
def yp{s:Sta}(h:BL s lo hi size=ZB):Ac .quo .i64 lo 8=lo / 8/\0<=lo / 8/\lo / 8<=7:=by obtain⟨-,h1,h2,h3,h4⟩:=nz h;exact⟨O9 Fn Fn,by omega,by omega⟩
def ag5{s:Sta}(h:BL s lo hi size=ZB)(hn:n=Ac .quo .i64 lo 8)(h0:(n==0)=ZC)(h1:(n==1)=ZC)(h2:(n==2)=ZC)(h3:(n==3)=ZC)(h4:(n==4)=ZC)(h5:(n==5)=ZC)(h6:(n==6)=ZC)(h7:(n==7)=ZC):False:=by obtain⟨e,a,b⟩:=yp h;rw[e]at hn;simp only[jJ]at h0 h1 h2 h3 h4 h5 h6 h7;omega
def tJ{s:Sta}(h:decide (lo<0)=ZB):BL s lo hi size=ZC:=by have:=Ah h;unfold BL;rw[show decide (0<=lo)=ZC from ff Fn];simp only[av,au]
def tL{s:Sta}(h:decide (hi<lo)=ZB):BL s lo hi size=ZC:=by have:=Ah h;unfold BL;rw[show decide (lo<=hi)=ZC from ff Fn];simp only[av,au]
def oK{s:Sta}(h:decide (Ac .sub .i64 64 size<hi)=ZB):BL s lo hi size=ZC:=by have:=Ah h;unfold BL;rw[show decide (hi<=Ac .sub .i64 64 size)=ZC from ff Fn];simp only[av,au]
def afq{s:Sta}(h1:(size==1)=ZC)(h2:(size==2)=ZC)(h3:(size==4)=ZC)(h4:(size==8)=ZC):BL s lo hi size=ZC:=by unfold BL;rw[h1,h2,h3,h4];rfl
def tK{s:Sta}(hz:(size==1)=ZB\/(size==2)=ZB\/(size==4)=ZB\/(size==8)=ZB)(h1:decide (lo<0)=ZC)(h2:decide (hi<lo)=ZC):BL s lo hi size=(!decide (Ac .sub .i64 64 size<hi)&&Az s):=by have:=Ab h1;have:=Ab h2;unfold BL;rw[show(size==1||(size==2||(size==4||size==8)))=ZB from by rcases hz with h|h|h|h<;>simp[h],show decide (0<=lo)=ZB from dm Fn,show decide (lo<=hi)=ZB from dm Fn,show decide (hi<=Ac .sub .i64 64 size) = !decide (Ac .sub .i64 64 size<hi)from by rw[ao];simp];rfl
def ao4(h1:(size==8)=ZC):DX lo hi size=ZC:=by unfold DX;rw[h1];rfl
def ao3(h2:(lo==hi)=ZC):DX lo hi size=ZC:=by unfold DX;rw[h2,av,au]
def rI{s:Sta}{p q:Int->Bool}{t:Ty}(h:∀k:Int,0<=k->k<=7->p k=q k):BC s p t=BC s q t:=by unfold BC;rw[h 0 Fn Fn,h 1 Fn Fn,h 2 Fn Fn,h 3 Fn Fn,h 4 Fn Fn,h 5 Fn Fn,h 6 Fn Fn,h 7 Fn Fn]
def ae5{s:Sta}{p:Int->Bool}{t:Ty}(h:∀k:Int,0<=k->k<=7->p k=ZC):BC s p t=s:=by rw[rI (q:=fun _=>ZC) h];rfl
def arZ(s:Sta):List Dt:=[.z s.s0.k,.z s.s0.ul,.z s.s0.uh,.z s.s0.sl,.z s.s0.sh,.z s.s0.v,.z s.s0.m,.z s.s0.lo,.z s.s0.hi,.z s.s1.k,.z s.s1.ul,.z s.s1.uh,.z s.s1.sl,.z s.s1.sh,.z s.s1.v,.z s.s1.m,.z s.s1.lo,.z s.s1.hi,.z s.s2.k,.z s.s2.ul,.z s.s2.uh,.z s.s2.sl,.z s.s2.sh,.z s.s2.v,.z s.s2.m,.z s.s2.lo,.z s.s2.hi,.z s.s3.k,.z s.s3.ul,.z s.s3.uh,.z s.s3.sl,.z s.s3.sh,.z s.s3.v,.z s.s3.m,.z s.s3.lo,.z s.s3.hi,.z s.s4.k,.z s.s4.ul,.z s.s4.uh,.z s.s4.sl,.z s.s4.sh,.z s.s4.v,.z s.s4.m,.z s.s4.lo,.z s.s4.hi,.z s.s5.k,.z s.s5.ul,.z s.s5.uh,.z s.s5.sl,.z s.s5.sh,.z s.s5.v,.z s.s5.m,.z s.s5.lo,.z s.s5.hi,.z s.s6.k,.z s.s6.ul,.z s.s6.uh,.z s.s6.sl,.z s.s6.sh,.z s.s6.v,.z s.s6.m,.z s.s6.lo,.z s.s6.hi,.z s.s7.k,.z s.s7.ul,.z s.s7.uh,.z s.s7.sl,.z s.s7.sh,.z s.s7.v,.z s.s7.m,.z s.s7.lo,.z s.s7.hi]
def CN(a b:Int)(k:Int):Bool:=decide (a<=k)&&decide (k<b)
def aj8{s:Sta}{p q:Int->Bool}{t:Ty}(h:∀k:Int,0<=k->k<=7->q k=(p k||(k==0))):BC s q t={BC s p t with s0:=t}:=by unfold BC;simp only[h 0 Fn Fn,show q 1=p 1 from by rw[h 1 Fn Fn];exact bn _,show q 2=p 2 from by rw[h 2 Fn Fn];exact bn _,show q 3=p 3 from by rw[h 3 Fn Fn];exact bn _,show q 4=p 4 from by rw[h 4 Fn Fn];exact bn _,show q 5=p 5 from by rw[h 5 Fn Fn];exact bn _,show q 6=p 6 from by rw[h 6 Fn Fn];exact bn _,show q 7=p 7 from by rw[h 7 Fn Fn];exact bn _];simp
def aj7{s:Sta}{p q:Int->Bool}{t:Ty}(h:∀k:Int,0<=k->k<=7->q k=(p k||(k==1))):BC s q t={BC s p t with s1:=t}:=by unfold BC;simp only[h 1 Fn Fn,show q 0=p 0 from by rw[h 0 Fn Fn];exact bn _,show q 2=p 2 from by rw[h 2 Fn Fn];exact bn _,show q 3=p 3 from by rw[h 3 Fn Fn];exact bn _,show q 4=p 4 from by rw[h 4 Fn Fn];exact bn _,show q 5=p 5 from by rw[h 5 Fn Fn];exact bn _,show q 6=p 6 from by rw[h 6 Fn Fn];exact bn _,show q 7=p 7 from by rw[h 7 Fn Fn];exact bn _];simp
def aj6{s:Sta}{p q:Int->Bool}{t:Ty}(h:∀k:Int,0<=k->k<=7->q k=(p k||(k==2))):BC s q t={BC s p t with s2:=t}:=by unfold BC;simp only[h 2 Fn Fn,show q 0=p 0 from by rw[h 0 Fn Fn];exact bn _,show q 1=p 1 from by rw[h 1 Fn Fn];exact bn _,show q 3=p 3 from by rw[h 3 Fn Fn];exact bn _,show q 4=p 4 from by rw[h 4 Fn Fn];exact bn _,show q 5=p 5 from by rw[h 5 Fn Fn];exact bn _,show q 6=p 6 from by rw[h 6 Fn Fn];exact bn _,show q 7=p 7 from by rw[h 7 Fn Fn];exact bn _];simp
def aj5{s:Sta}{p q:Int->Bool}{t:Ty}(h:∀k:Int,0<=k->k<=7->q k=(p k||(k==3))):BC s q t={BC s p t with s3:=t}:=by unfold BC;simp only[h 3 Fn Fn,show q 0=p 0 from by rw[h 0 Fn Fn];exact bn _,show q 1=p 1 from by rw[h 1 Fn Fn];exact bn _,show q 2=p 2 from by rw[h 2 Fn Fn];exact bn _,show q 4=p 4 from by rw[h 4 Fn Fn];exact bn _,show q 5=p 5 from by rw[h 5 Fn Fn];exact bn _,show q 6=p 6 from by rw[h 6 Fn Fn];exact bn _,show q 7=p 7 from by rw[h 7 Fn Fn];exact bn _];simp
def aj4{s:Sta}{p q:Int->Bool}{t:Ty}(h:∀k:Int,0<=k->k<=7->q k=(p k||(k==4))):BC s q t={BC s p t with s4:=t}:=by unfold BC;simp only[h 4 Fn Fn,show q 0=p 0 from by rw[h 0 Fn Fn];exact bn _,show q 1=p 1 from by rw[h 1 Fn Fn];exact bn _,show q 2=p 2 from by rw[h 2 Fn Fn];exact bn _,show q 3=p 3 from by rw[h 3 Fn Fn];exact bn _,show q 5=p 5 from by rw[h 5 Fn Fn];exact bn _,show q 6=p 6 from by rw[h 6 Fn Fn];exact bn _,show q 7=p 7 from by rw[h 7 Fn Fn];exact bn _];simp
def aj3{s:Sta}{p q:Int->Bool}{t:Ty}(h:∀k:Int,0<=k->k<=7->q k=(p k||(k==5))):BC s q t={BC s p t with s5:=t}:=by unfold BC;simp only[h 5 Fn Fn,show q 0=p 0 from by rw[h 0 Fn Fn];exact bn _,show q 1=p 1 from by rw[h 1 Fn Fn];exact bn _,show q 2=p 2 from by rw[h 2 Fn Fn];exact bn _,show q 3=p 3 from by rw[h 3 Fn Fn];exact bn _,show q 4=p 4 from by rw[h 4 Fn Fn];exact bn _,show q 6=p 6 from by rw[h 6 Fn Fn];exact bn _,show q 7=p 7 from by rw[h 7 Fn Fn];exact bn _];simp
def aj2{s:Sta}{p q:Int->Bool}{t:Ty}(h:∀k:Int,0<=k->k<=7->q k=(p k||(k==6))):BC s q t={BC s p t with s6:=t}:=by unfold BC;simp only[h 6 Fn Fn,show q 0=p 0 from by rw[h 0 Fn Fn];exact bn _,show q 1=p 1 from by rw[h 1 Fn Fn];exact bn _,show q 2=p 2 from by rw[h 2 Fn Fn];exact bn _,show q 3=p 3 from by rw[h 3 Fn Fn];exact bn _,show q 4=p 4 from by rw[h 4 Fn Fn];exact bn _,show q 5=p 5 from by rw[h 5 Fn Fn];exact bn _,show q 7=p 7 from by rw[h 7 Fn Fn];exact bn _];simp
def aj1{s:Sta}{p q:Int->Bool}{t:Ty}(h:∀k:Int,0<=k->k<=7->q k=(p k||(k==7))):BC s q t={BC s p t with s7:=t}:=by unfold BC;simp only[h 7 Fn Fn,show q 0=p 0 from by rw[h 0 Fn Fn];exact bn _,show q 1=p 1 from by rw[h 1 Fn Fn];exact bn _,show q 2=p 2 from by rw[h 2 Fn Fn];exact bn _,show q 3=p 3 from by rw[h 3 Fn Fn];exact bn _,show q 4=p 4 from by rw[h 4 Fn Fn];exact bn _,show q 5=p 5 from by rw[h 5 Fn Fn];exact bn _,show q 6=p 6 from by rw[h 6 Fn Fn];exact bn _];simp
def iD{s:Sta}{t:Ty}(h:BL s lo hi size=ZC\/tset t=ZC):jd s lo hi size t=J2/\nv s lo hi size t=2:=by
 have:¬(BL s lo hi size=ZB/\tset t=ZB):=by rcases h with h|h<;>simp[h]
 exact⟨by unfold jd;rw[aa this],by unfold nv;rw[aa this]⟩
def bj{s:Sta}{t:Ty}(h:BL s lo hi size=ZB)(ht:tset t=ZB)(h1:DX lo hi size=ZB):jd s lo hi size t=BC s (fun k=>k==Ac .quo .i64 lo 8) t/\nv s lo hi size t=0:=by exact⟨by unfold jd;rw[ae ⟨h,ht⟩,ae h1],by unfold nv;rw[ae ⟨h,ht⟩]⟩
def lG{s:Sta}{t:Ty}(h:BL s lo hi size=ZB)(ht:tset t=ZB)(h1:DX lo hi size=ZC):jd s lo hi size t=BC s (fun k=>decide (lo<8*k+8)&&decide (8*k<hi+size)) tscal/\nv s lo hi size t=0:=by exact⟨by unfold jd;rw[ae ⟨h,ht⟩,aa (by rw[h1];simp)],by unfold nv;rw[ae ⟨h,ht⟩]⟩
def WP{t:Ty}(h:(t.k==0)=ZB):tset t=ZC:=by unfold tset;rw[h,Bool.not_true,au]
def ama{t:Ty}(h:Bh t=ZC):tset t=ZC:=by unfold tset;rw[h,av]
def eh{t:Ty}(h:(t.k==0)=ZC)(h2:Bh t=ZB):tset t=ZB:=by unfold tset;rw[h,h2];rfl
def aq7{s:Sta}(h:BL s lo hi size=ZB)(h1:n<=(hi+size-1) / 8+1)(h2:(hi+size-1) / 8<n):BC s (CN (lo / 8) n) tscal=BC s (fun k=>decide (lo<8*k+8)&&decide (8*k<hi+size)) tscal:=by obtain⟨-,g1,g2,g3,g4⟩:=nz h;refine rI fun k k0 k1=> ?_;unfold CN;rw[ao];simp only[ne,aE];omega
def hZ{k:Int}(hn:a<=n):CN a (n+1) k=(CN a n k||(k==n)):=by unfold CN;rw[ao];simp only[ne,fy,aE,cQ];omega
open Go.ChangeShapes Go.WideShapes
def Hj(ks:List CE):Nat->List CE
 |0=>[]
 |n+1=>ks++Hj ks n
def abk(ks:List CE):∀n,(Hj ks n).length=n*ks.length
 |0=>by simp[Hj]
 |n+1=>by simp only[Hj,eo,abk ks n,Nat.succ_mul];omega
def Rw.array{t e:TypeId}{n:Nat}(r:Rw P e ks)(ht:P.underlying t=ZA (.array n e))(hc:P.cellsOf t=(Hj ks n).length):Rw P t (Hj ks n) where
 cells:=hc
 opn:=fun {H} {enc} {W} {sp} {hd} {fuel} {cs} {d} h=>by
  obtain⟨xs,m,_,_,hl,AZ,hf⟩:=DataW.trod_array ht h;rw[hc,abk]at hl;have key:∀(k i:Nat),i+k=n->∃q,cs.drop (i*ks.length)=Bm (Hj ks k) q/\az (Hj ks k) q=ZB:=by
   intro k
   induction k with
   |zero=>intro i hi;exact⟨[],by rw[List.drop_eq_nil_of_le (by rw[hl];exact Nat.mul_le_mul_right _ Fn)];rfl,rfl⟩
   |succ k ih=>intro i hi;have h1:=hf i Fn;rw[r.cells,AH Fn]at h1;obtain⟨a,ha,CX⟩:=r.opn h1;obtain⟨b,hb,Ex⟩:=ih (i+1) Fn;refine⟨a++b,?_,qb CX Ex⟩;show _=Bm (ks++Hj ks k) _;rw[tU CX,<-ha,<-hb,Nat.succ_mul,<-List.drop_drop,List.take_append_drop]
  obtain⟨q,h1,h2⟩:=key n 0 Fn;rw[Nat.zero_mul,List.drop_zero]at h1;exact⟨q,h1,h2⟩
def acZ{k:CE}{q:List Int}(h:az (k::ks) q=ZB):∃x q',q=x::q'/\Dp k x=ZB/\az ks q'=ZB:=by
 cases q with
 |nil=>cases h
 |cons x q'=>simp only[az,ne]at h;exact⟨x,q',rfl,h.1,h.2⟩
def agJ{q:List Int}(h:az [] q=ZB):q=[]:=by
 cases q with
 |nil=>rfl
 |cons=>cases h
def Kl(P:Program)(d t:Nat)(z:List C):Prop:=∀vs,aL vs z->P.keyLits d t vs=ZA (cV vs)
def FR(z:List C):Nat->List C
 |0=>[]
 |n+1=>z++FR z n
def eP:∀{z:List C} {vs:List Value},aL vs z->vs.length=z.length
 |[],vs,h=>by rw[bT h];rfl
 |.int k e::r,vs,h=>by obtain⟨x,l,rfl,_,h2⟩:=ah h;simp[eP h2]
 |.bool e::r,vs,h=>by obtain⟨x,l,rfl,h2⟩:=dW h;simp[eP h2]
 |.yld _::_,vs,h|.wn _ _ _ _ _::_,vs,h|.aw _ _ _ _ _ _ _::_,vs,h|.str _::_,vs,h|.pe _ _ _ _ _ _::_,vs,h|.nmp::_,vs,h|.mp _::_,vs,h|.itp _ _::_,vs,h|.ptr _ _::_,vs,h|.fp _ _::_,vs,h|.fn _::_,vs,h|.np::_,vs,h|.undef::_,vs,h|.sl _::_,vs,h|.ep _ _ _ _::_,vs,h|.nsl::_,vs,h|.nf::_,vs,h|.clo _ _ _::_,vs,h=>by
   cases vs with
   |nil=>exact h.elim
   |cons v l=>cases v<;>exact h.elim
def kQ:∀{z z':List C} {vs:List Value},aL vs (z++z')->∃v1 v2,vs=v1++v2/\aL v1 z/\aL v2 z'/\cV vs=cV v1++cV v2
 |[],z',vs,h=>⟨[],vs,rfl,trivial,h,rfl⟩
 |.int k e::r,z',vs,h=>by obtain⟨x,l,rfl,hx,h2⟩:=ah (r:=r++z') h;obtain⟨v1,v2,rfl,h3,h4,h5⟩:=kQ h2;exact⟨.int k x::v1,v2,rfl,⟨rfl,hx,h3⟩,h4,by simp[cV,h5]⟩
 |.bool e::r,z',vs,h=>by obtain⟨x,l,rfl,h2⟩:=dW (r:=r++z') h;obtain⟨v1,v2,rfl,h3,h4,h5⟩:=kQ h2;exact⟨.bool x::v1,v2,rfl,h3,h4,by simp[cV,h5]⟩
 |.yld _::_,_,vs,h|.wn _ _ _ _ _::_,_,vs,h|.aw _ _ _ _ _ _ _::_,_,vs,h|.str _::_,_,vs,h|.pe _ _ _ _ _ _::_,_,vs,h|.nmp::_,_,vs,h|.mp _::_,_,vs,h|.itp _ _::_,_,vs,h|.ptr _ _::_,_,vs,h|.fp _ _::_,_,vs,h|.fn _::_,_,vs,h|.np::_,_,vs,h|.undef::_,_,vs,h|.sl _::_,_,vs,h|.ep _ _ _ _::_,_,vs,h|.nsl::_,_,vs,h|.nf::_,_,vs,h|.clo _ _ _::_,_,vs,h=>by
   cases vs with
   |nil=>exact h.elim
   |cons v l=>cases v<;>exact h.elim
def Kl.int{d:Nat}{k:IntKind}(e:E)(ht:P.underlying t=ZA (.int k)):Kl P (d+1) t [.int k e]:=fun vs hv=>by obtain⟨x,l,rfl,hx,h2⟩:=ah hv;obtain rfl:=bT h2;have hw:(Lit.int k x).wf=ZB:=hx;simp[Program.keyLits,ht,cV,hw]
def Kl.array{d e n:Nat}(h:Kl P d e z)(ht:P.underlying t=ZA (.array n e))(he:P.cellsOf e=z.length)(hc:P.cellsOf t=n*z.length):Kl P (d+1) t (FR z n):=fun vs hv=>by
 have key:∀(k i:Nat) (cs us:List Value),cs.drop (i*z.length)=us->aL us (FR z k)->∃ls,((List.range' i k).mapM fun i=>P.keyLits d e ((cs.drop (i*P.cellsOf e)).take (P.cellsOf e)))=ZA ls/\ls.flatten=cV us:=by
  intro k
  induction k with
  |zero=>intro i cs us _ hu;exact⟨[],rfl,by rw[bT hu];rfl⟩
  |succ k ih=>intro i cs us hd hu;obtain⟨v1,v2,rfl,h1,h2,h3⟩:=kQ (z:=z) (z':=FR z k) hu;have hl:=eP h1;obtain⟨ls,g1,g2⟩:=ih (i+1) cs v2 (by rw[Nat.succ_mul,<-List.drop_drop,hd,List.drop_left' hl]) h2;refine⟨cV v1::ls,?_,by rw[List.flatten_cons,g2,h3]⟩;rw[List.range'_succ,List.mapM_cons,he,hd,List.take_left' hl,h v1 h1];rw[he]at g1;simp only[Option.pure_def,Option.bind_eq_bind,Option.bind_some,g1]
 obtain⟨ls,g1,g2⟩:=key n 0 vs vs (by simp) hv;have hl:vs.length=P.cellsOf t:=by
  have hr:∀m,(FR z m).length=m*z.length:=fun m=>by
   induction m with
   |zero=>simp[FR]
   |succ m ih=>simp only[FR,eo,ih,Nat.succ_mul];omega
  rw[hc,eP hv,hr]
 simp only[Program.keyLits,ht,hl,bm];rw[List.range_eq_range',g1];simp[g2]
def KlSeq(P:Program)(d off:Nat)(fs:List Field)(z:List C):Prop:=∀(cs us:List Value),cs.drop off=us->aL us z->∃ls,(fs.mapM fun f=>P.keyLits d f.type ((cs.drop f.offset).take (P.cellsOf f.type)))=ZA ls/\ls.flatten=cV us
def KlSeq.nil(P:Program)(d off:Nat):KlSeq P d off [] []:=fun cs us _ hu=>⟨[],rfl,by rw[bT hu];rfl⟩
def KlSeq.cons{d off:Nat}{f:Field}{fs:List Field}{z':List C}(h:Kl P d f.type z)(ho:f.offset=off)(hc:P.cellsOf f.type=z.length)(h':KlSeq P d (off+z.length) fs z'):KlSeq P d off (f::fs) (z++z'):=fun cs us hd hu=>by obtain⟨v1,v2,rfl,h1,h2,h3⟩:=kQ hu;have hl:=eP h1;obtain⟨ls,g1,g2⟩:=h' cs v2 (by rw[<-List.drop_drop,hd,List.drop_left' hl]) h2;refine⟨cV v1::ls,?_,by rw[List.flatten_cons,g2,h3]⟩;rw[List.mapM_cons,ho,hc,hd,List.take_left' hl,h v1 h1];simp only[Option.pure_def,Option.bind_eq_bind,Option.bind_some,g1]
def Kl.struct{d:Nat}{fs:Array Field}(h:KlSeq P d 0 fs.toList z)(ht:P.underlying t=ZA (.struct fs))(hc:P.cellsOf t=z.length)(hn:fs.all (·.name != "_")=ZB):Kl P (d+1) t z:=fun vs hv=>by
 obtain⟨ls,g1,g2⟩:=h vs vs rfl hv;have hl:vs.length=P.cellsOf t:=by rw[hc,eP hv]
 simp only[Program.keyLits,ht,hl,hn,and_self,bm,g1];simp[g2]
def aiq{fs:Array Field}(ht:P.underlying t=ZA (.struct fs))(hc:P.cellsOf t=z.length)(vs:List Value)(hv:aL vs z):(Value.agg vs.toArray).formed P t=ZB:=by simp[Value.formed,ht,hc,eP hv]
def Bs(h:(a==b)=ZB):a=b:=by simpa using h
def Ch(h:(a==b)=ZC):a≠b:=by simpa using h
structure Ins where
 k:Int
 op:Int
 w:Int
 sz:Int
 br:Bool
 d:Int
 s:Int
 off:Int
 imm:Int
structure Prog where
 ctx:Int
 l:LL
def aR(n:Int):Bool:=n==1||(n==2||(n==4||n==8))
def BH(x:Ins):Ins:=if x.br=ZB then {x with s:=0,br:=ZC}else {x with imm:=0,br:=ZC}
def cA(x:Ins):Ins×Bool:=
 if x.k=0 then({BH x with op:=0,w:=0,d:=0},(decide (0<=x.op)&&decide (x.op<=12))&&((x.w==32||x.w==64)&&(decide (x.d<10)&&(!(x.op==8)||(!x.br&&x.imm==0)))))
 else if x.k=1 then({x with sz:=0,d:=0,s:=0,off:=0},aR x.sz&&decide (x.d<10))
 else if x.k=2 then({x with sz:=0,d:=0,s:=0,off:=0},aR x.sz)
 else if x.k=3 then({BH x with op:=0,d:=0,off:=0},decide (0<=x.op)&&decide (x.op<=10))
 else if x.k=4 then({x with off:=0},ZB)
 else if x.k=5 then({x with imm:=0},decide (0<=x.imm)&&decide (x.imm<=15))
 else if x.k=6 then(x,ZB)
 else(x,ZC)
def gu(x y:Ins):Bool:=y.k==x.k&&(y.op==0&&(y.w==0&&(y.sz==0&&(!y.br&&(y.d==0&&(y.s==0&&(y.off==0&&y.imm==0)))))))
def fE(x:Ins):Bool:=(decide (0<=x.d)&&decide (x.d<=10))&&((decide (0<=x.s)&&decide (x.s<=10))&&((decide (-32768<=x.off)&&decide (x.off<=32767))&&(decide (-2147483648<=x.imm)&&decide (x.imm<=2147483647))))
def A2(x:Ins):Bool:=fE x&&((cA x).2&&gu x (cA x).1)
def AO(i:Int)(x:Ins):Int×Bool:=if(x.k=3\/x.k=4)/\((decide (-1099511627776<=i)&&decide (i<=1099511627776))&&(decide (-1099511627776<=x.off)&&decide (x.off<=1099511627776)))=ZB then(Ac .add .i64 (Ac .add .i64 i 1) x.off,ZB)else(0,ZC)
def fO(n:Int):Int:=if(decide (0<=n)&&decide (n<=15))=ZB then Ac .rem .i64 n 6 else 0
def AN(n:Int):Int:=Ac .shl .i64 1 n
def Dy(x:Ins):Int:=
 if A2 x=ZB then
  if x.k=0 then(if x.op=11 then(if x.br=ZB then AN x.s else 0)else Ac .or .i64 (AN x.d) (if x.br=ZB then AN x.s else 0))
  else if x.k=1 then AN x.s
  else if x.k=2 then Ac .or .i64 (AN x.d) (AN x.s)
  else if x.k=3 then Ac .or .i64 (AN x.d) (if x.br=ZB then AN x.s else 0)
  else if x.k=5 then Ac .sub .i64 (Ac .shl .i64 1 (Ac .add .i64 (fO x.imm) 1)) 2
  else if x.k=6 then 1 else 0
 else 0
def Vr(x:Ins):Int:=if A2 x=ZB then(if x.k=0\/x.k=1 then AN x.d else if x.k=5 then 63 else 0)else 0
def cz{x:Ins}(h:A2 x=ZB):0<=x.d/\x.d<=10/\0<=x.s/\x.s<=10 /\ -32768<=x.off/\x.off<=32767/\0<=x.k/\x.k<=6:=by
 unfold A2 fE at h;simp only[ne,aE]at h;obtain⟨⟨⟨a,b⟩,⟨c,d⟩,⟨e,f⟩,_⟩,h2,_⟩:=h;have:0<=x.k/\x.k<=6:=by
  unfold cA at h2;split at h2;· omega
  split at h2;· omega
  split at h2;· omega
  split at h2;· omega
  split at h2;· omega
  split at h2;· omega
  split at h2;· omega
  cases h2
 omega
def fN(n:Int):0<=fO n/\fO n<=5:=by
 unfold fO;split
 next h=>simp only[ne,aE]at h;show 0<=n.tmod 6/\n.tmod 6<=5;rw[Int.tmod_eq_emod_of_nonneg h.1];omega
 .exact Fn
def se{x:Ins}(hk:x.k=3\/x.k=4)(h1:(decide (-1099511627776<=i)&&decide (i<=1099511627776))=ZB)(h2:(decide (-1099511627776<=x.off)&&decide (x.off<=1099511627776))=ZB):AO i x=(Ac .add .i64 (Ac .add .i64 i 1) x.off,ZB):=by unfold AO;rw[ae ⟨hk,by rw[h1,h2];rfl⟩]
def si{x:Ins}(h1:(decide (-1099511627776<=i)&&decide (i<=1099511627776))=ZC):AO i x=(0,ZC):=by unfold AO;rw[aa (fun h=>by rw[h1]at h;exact ai h.2 (by simp))]
def sf{x:Ins}(h2:(decide (-1099511627776<=x.off)&&decide (x.off<=1099511627776))=ZC):AO i x=(0,ZC):=by unfold AO;rw[aa (fun h=>by rw[h2]at h;exact ai h.2 (by simp))]
def am5{x:Ins}(h3:(x.k==3)=ZC)(h4:(x.k==4)=ZC):AO i x=(0,ZC):=by unfold AO;rw[aa (fun h=>by rcases h.1 with h|h<;>simp[h]at h3 h4)]
def aqQ(h:(decide (0<=n)&&decide (n<=15))=ZB):fO n=Ac .rem .i64 n 6:=ae h
def aqR(h:(decide (0<=n)&&decide (n<=15))=ZC):fO n=0:=aa X3
def ab(l:LL)(i:Int):Ins:=⟨gt l i 0,gt l i 1,gt l i 2,gt l i 3,gt l i 4==1,gt l i 5,gt l i 6,gt l i 7,gt l i 8⟩
def aj(l:LL)(i:Int):(⟨gt l i 0,gt l i 1,gt l i 2,gt l i 3,gt l i 4==1,gt l i 5,gt l i 6,gt l i 7,gt l i 8⟩:Ins)=ab l i:=rfl
def Prog.last(p:Prog):Int:=Ac .sub .i64 (p.l.length:Int) 1
def lU(p:Prog)(n:Int):Option Int:=
 if A2 (ab p.l n)=ZC then ZA 31
 else if(AO n (ab p.l n)).2=ZB/\(decide (0<=(AO n (ab p.l n)).1)&&decide ((AO n (ab p.l n)).1<=p.last))=ZC then ZA 32 else ZE
def Dr(p:Prog):Nat->Nat->Option (Int×Int)
 |0,_=>ZE
 |m+1,n=>match lU p n with
   |some e=>ZA (n,e)
   |none=>Dr p m (n+1)
def aY(p:Prog):Int×Int:=
 if(decide (0<=p.ctx)&&decide (p.ctx<=256))=ZC then(0,2)
 else if(decide (0<=p.last)&&decide (p.last<=63))=ZC then(0,3)
 else match Dr p p.l.length 0 with
  |some r=>r
  |none=>if(ab p.l p.last).k=4\/(ab p.l p.last).k=6 then(0,0)else(p.last,33)
def nU{p:Prog}(c0:(decide (0<=p.ctx)&&decide (p.ctx<=256))=ZC):aY p=(0,2):=by unfold aY;rw[ae c0]
def nT{p:Prog}(c0:(decide (0<=p.ctx)&&decide (p.ctx<=256))=ZB)(c1:(decide (0<=p.last)&&decide (p.last<=63))=ZC):aY p=(0,3):=by unfold aY;rw[aa (by rw[c0];simp),ae c1]
def mq{p:Prog}{n:Nat}(h:n<p.l.length)(hb:lU p n=ZE):Dr p (p.l.length-n) n=Dr p (p.l.length-(n+1)) (n+1):=by rw[show p.l.length-n=(p.l.length-(n+1))+1 by omega];simp only[Dr,hb]
def iG{p:Prog}{n:Nat}(c0:(decide (0<=p.ctx)&&decide (p.ctx<=256))=ZB)(c1:(decide (0<=p.last)&&decide (p.last<=63))=ZB)(hs:Dr p p.l.length 0=Dr p (p.l.length-n) n)(h:n<p.l.length)(hb:lU p n=ZA e):aY p=((n:Int),e):=by unfold aY;rw[aa (by rw[c0];simp),aa (by rw[c1];simp),hs,show p.l.length-n=(p.l.length-(n+1))+1 by omega];simp only[Dr,hb]
def fS{p:Prog}{n:Nat}(c0:(decide (0<=p.ctx)&&decide (p.ctx<=256))=ZB)(c1:(decide (0<=p.last)&&decide (p.last<=63))=ZB)(hs:Dr p p.l.length 0=Dr p (p.l.length-n) n)(h:n=p.l.length):aY p=if(ab p.l p.last).k=4\/(ab p.l p.last).k=6 then(0,0)else(p.last,33):=by unfold aY;rw[aa (by rw[c0];simp),aa (by rw[c1];simp),hs,h,Nat.sub_self];rfl
def qU{p:Prog}(h:A2 (ab p.l n)=ZC):lU p n=ZA 31:=by unfold lU;rw[ae h]
def pf{p:Prog}(h:A2 (ab p.l n)=ZB)(h2:(AO n (ab p.l n)).2=ZB)(h3:(decide (0<=(AO n (ab p.l n)).1)&&decide ((AO n (ab p.l n)).1<=p.last))=ZC):lU p n=ZA 32:=by unfold lU;rw[aa X3,ae ⟨h2,h3⟩]
def pg{p:Prog}(h:A2 (ab p.l n)=ZB)(h2:(AO n (ab p.l n)).2=ZC\/(decide (0<=(AO n (ab p.l n)).1)&&decide ((AO n (ab p.l n)).1<=p.last))=ZB):lU p n=ZE:=by unfold lU;rw[aa X3,aa (fun q=>by rcases h2 with h2|h2<;>rw[h2]at q<;>simp at q)]
def zg{p:Prog}(c1:(decide (0<=p.last)&&decide (p.last<=63))=ZB)(hl:p.l.length<=maxLen):p.last=(p.l.length:Int)-1/\1<=p.l.length/\p.l.length<=64:=by
 simp only[ne,aE]at c1;have e:p.last=(p.l.length:Int)-1:=by unfold Prog.last;show IntKind.i64.wrap ((p.l.length:Int)-1)=_;rw[aT];simp[maxLen]at hl;omega
 omega
def GF{n:Nat}(h:n<m)(hm:m<=maxLen):Ac .add .i64 (n:Int) 1=((n+1:Nat):Int):=by show IntKind.i64.wrap ((n:Int)+1)=_;rw[aT];simp[maxLen]at hm;omega
def kI{v n:Nat}{z:Int}(h:Ag v U σ)(k:U.i n=z)(hn:n<v:=by decide):σ.i n=z:=(h n hn).1.symm.trans k
def kB{v n:Nat}{z:Bool}(h:Ag v U σ)(k:U.b n=z)(hn:n<v:=by decide):σ.b n=z:=(h n hn).2.1.symm.trans k
def kL{v n:Nat}{z:LL}(h:Ag v U σ)(k:U.l n=z)(hn:n<v:=by decide):σ.l n=z:=(h n hn).2.2.symm.trans k
def aP(l:LL)(i:Int):ab [[gt l i 0,gt l i 1,gt l i 2,gt l i 3,AD (gt l i 4==1),gt l i 5,gt l i 6,gt l i 7,gt l i 8]] 0=ab l i:=by show(⟨gt l i 0,gt l i 1,gt l i 2,gt l i 3,AD (gt l i 4==1)==1,gt l i 5,gt l i 6,gt l i 7,gt l i 8⟩:Ins)=_;rw[b2i_one];rfl
def atA(h:Ae .i8 v=ZB):ZG .i64 v=v:=by simp[Ae,IntKind.min,IntKind.max,YT,YW]at h;rw[aT];omega
def Av(t:Ty):Bool:=(t.k==2)||(t.k==3)
def DQ(s:Sc):Ty:=ty 1 s 0 0
def BK(n:Int):Bool:=decide (-1048576<=n)&&decide (n<=1048576)
def B7(s:Sc)(b:Bool):Int:=if b=ZB then IntKind.i64.wrap (0-s.sh)else s.sl
def B6(s:Sc)(b:Bool):Int:=if b=ZB then IntKind.i64.wrap (0-s.sl)else s.sh
def ar(t:Ty)(s:Sc)(b:Bool):Ty:={t with lo:=ZG .i64 (t.lo+B7 s b),hi:=ZG .i64 (t.hi+B6 s b)}
def oe(t:Ty)(s:Sc)(b:Bool):Ty:=if(decide (-1048576<=s.sl)&&decide (s.sh<=1048576))=ZB/\(BK (ar t s b).lo&&BK (ar t s b).hi)=ZB then ar t s b else tscal
def Im(x:Ins)(a b:Ty):Ty:=if x.op=11 then b else a
def In(x:Ins)(b:Ty):Ty:=if x.op=8 then DQ (Cb 0)else b
def bi(op w:Int)(a b:Ty):Ty:=
 if(!Av a &&!Av b)=ZB then DQ (Hy op w a.s b.s)
 else if w=64/\Av b=ZC/\(op=0\/op=1)then oe a b.s (op==1)
 else if w=64/\Av a=ZC/\op=0 then oe b a.s ZC
 else if w=64 then tscal
 else DQ (Db 4)
def Dv(x:Ins)(a b:Ty):Ty:=if x.op=11/\x.w=64 then b else bi x.op x.w (Im x a b) (In x b)
def aG(ctx:Int)(t:Ty)(off size:Int):Bool:=Av t&&(aR size&&((BK off&&(BK t.lo&&BK t.hi))&&(decide (t.lo<=t.hi)&&(decide (0<=t.lo+off)&&decide (t.hi+off+size<=if t.k=2 then ctx else 64)))))
section
variable {x:Ins}{a b:Ty}{op w:Int}
def va_m(h:(x.op==11)=ZB)(h2:(x.w==64)=ZB):Dv x a b=b:=ae ⟨Bs h,Bs h2⟩
def va_o(h:(x.op==11)=ZB)(h2:(x.w==64)=ZC):Dv x a b=bi x.op x.w b b:=by unfold Dv Im In;rw[aa (fun e=>Ch h2 e.2),ae (Bs h),aa (by have:=Bs h;omega)]
def va_n(h:(x.op==11)=ZC)(h2:(x.op==8)=ZB):Dv x a b=bi x.op x.w a (DQ (Cb 0)):=by unfold Dv Im In;rw[aa (fun e=>Ch h e.1),aa (Ch h),ae (Bs h2)]
def va_e(h:(x.op==11)=ZC)(h2:(x.op==8)=ZC):Dv x a b=bi x.op x.w a b:=by unfold Dv Im In;rw[aa (fun e=>Ch h e.1),aa (Ch h),aa (Ch h2)]
end
def gD(cc:Int):Bool:=decide (0<=cc)&&decide (cc<10)
def iu(cc:Int):Int:=if cc=0 then 1 else if cc=1 then 0 else if cc=2 then 5 else if cc=3 then 4 else if cc=4 then 3 else if cc=5 then 2 else if cc=6 then 9 else if cc=7 then 8 else if cc=8 then 7 else if cc=9 then 6 else 0
def Co(n:Int):Int:=if n=1\/n=2\/n=4\/n=8 then 1 else if n=7 then 3 else 2
def cnt8(h:1<=n/\n<=8):n=1\/n=2\/n=3\/n=4\/n=5\/n=6\/n=7\/n=8:=by omega
open Go.Shelf
def auJ:Ren:=⟨fun|29=>14|n=>n,fun|0=>0|3=>3|4=>4|5=>5|22=>39|25=>96|54=>61|n=>n,fun _=>0⟩
def auK:Lays7.n29 ZF auJ:={
 mixed:=by kernel_rfl
 f29:=func14.trans (congrArg ZA (by kernel_rfl))
 t0:=underlying0
 a0:=Tryz.isAgg0
 z0:=Tryz.sizeOf0
 v0:=Tryz.zeroValue0
 i0:=by kernel_rfl
 t3:=underlying3
 a3:=Tryz.isAgg3
 z3:=Tryz.sizeOf3
 v3:=Tryz.zeroValue3
 i3:=by kernel_rfl
 t4:=underlying4
 a4:=Tryz.isAgg4
 z4:=Tryz.sizeOf4
 v4:=Tryz.zeroValue4
 i4:=by kernel_rfl
 t5:=underlying5
 a5:=Tryz.isAgg5
 z5:=Tryz.sizeOf5
 v5:=Tryz.zeroValue5
 i5:=by kernel_rfl
 t22:=underlying39
 a22:=Tryz.isAgg39
 z22:=Tryz.sizeOf39
 v22:=Tryz.zeroValue39
 i22:=by kernel_rfl
 t25:=underlying96
 a25:=Tryz.isAgg96
 z25:=Tryz.sizeOf96
 v25:=Tryz.zeroValue96
 i25:=by kernel_rfl
 t54:=underlying61
 a54:=Tryz.isAgg61
 z54:=Tryz.sizeOf61
 g1:=by kernel_rfl
}
def Jr(w:World):Prop:=TabAt 0 Lib.deBruijn64tab w
def Vl(w w':World)(hx:Ext w w')(h:Jr w):Jr w':=by
 intro j hj;have h1:=h j hj;have As:0<w.heap.size:=by
  rcases bC 0 w.heap.size with h2|h2
  .exact h2
  .have h3:w.heap[0]? =ZE:=Array.getElem?_eq_none h2;simp[World.cell?,h3]at h1
 rw[World.cell?_of_block (a:=⟨0,j,ZE⟩) (hx.block 0 As)];exact h1
def Vj:∃w,Jr w:=by
 refine⟨(default:World).alloc (.cells (Lib.deBruijn64tab.map fun(n:Nat)=>Value.int .u8 (n:Int)).toArray 0),?_⟩;intro j hj;have h0:(default:World).heap.size=0:=rfl;have:=heap_alloc_new (default:World) (.cells (Lib.deBruijn64tab.map fun(n:Nat)=>Value.int .u8 (n:Int)).toArray 0);rw[h0]at this;rw[kW this];simp only[Lib.deBruijn64tab,YQ,List.length_nil]at hj;have key:∀j,j<64->(Lib.deBruijn64tab.map fun(n:Nat)=>Value.int .u8 (n:Int))[j]? =ZA (.int .u8 (Lib.deBruijn64tab.getD j 0)):=by
  intro j hj;rw[js,bZ];have h1:j<Lib.deBruijn64tab.length:=by simpa[Lib.deBruijn64tab]using hj
  rw[AH h1];rfl
 exact key j Fn
def CO(x:Int):Int:=Lib.ctz 64 x.toNat
def afB(x:Int):List Dt:=[.z (CO x)]
def pW:List Dt->List Dt
 |[.z x]=>afB x
 |_=>[]
def yK(key:Nat):Sm:=⟨14,key,[.one (.int .u64)],[.one (.int .i64)],ZC⟩
def at7(x:Nat)(hx:x<2 ^ 64):Lib.ctz 64 x<=64:=by
 by_cases h:x=0
 .subst h;decide
 .exact Nat.le_of_lt (Lib.lowest_bit 64 x h hx).2
def agF{sp:Spec}{key:Nat}(hF:sp.F key=pW)(hH:∀w,sp.hw w->Jr w:=by exact fun _ h=>h):SmOk ZF sp (yK key):=by
 refine SmOk.pureW hF rfl rfl (fun xs vals w h hh=> ?_);obtain⟨_,_,_,rfl,⟨x,rfl,rfl,gx⟩,h⟩:=h;obtain⟨rfl,rfl⟩:=h;obtain⟨n,rfl⟩:∃n:Nat,x=n:=by simp[Ae,IntKind.min,IntKind.max,YT,YW]at gx;exact⟨x.toNat,by omega⟩
 have hn:n<2 ^ 64:=by simp[Ae,IntKind.min,IntKind.max,YT,YW]at gx;omega
 have HP:=at7 n hn;refine⟨.int .i64 (Lib.ctz 64 n),.inr ⟨dM func14 (by kernel_rfl) (by kernel_rfl) _ w,?_⟩,?_,fun U v0 nid j he=> ?_⟩
 .refine(Any7.bits_TrailingZeros64 auK n hn w fun _=>hH w hh).mono ?_;rintro e w' ⟨rfl,rfl⟩;exact⟨rfl,.refl _⟩
 .refine⟨?_,trivial⟩;show Ae .i64 (Lib.ctz 64 (n:Int).toNat:Int)=ZB;rw[cY];simp[Ae,IntKind.min,IntKind.max,YT,YW];omega
 .have h1:U.i v0=(Lib.ctz 64 (n:Int).toNat:Int):=he.1;rw[cY]at h1;show ZA (Value.int .i64 (U.i v0))=_;rw[h1]
def au1(p:Prog)(i:Int):LL:=
 if(ab p.l i).k≠4/\(ab p.l i).k≠6 then
  if(AO i (ab p.l i)).2=ZB/\(AO i (ab p.l i)).1≠Ac .add .i64 i 1 then[[min (AO i (ab p.l i)).1 (Ac .add .i64 i 1)],[max (AO i (ab p.l i)).1 (Ac .add .i64 i 1)]]else[[Ac .add .i64 i 1]]
 else if(AO i (ab p.l i)).2=ZB then[[(AO i (ab p.l i)).1]]else[]
abbrev BV:=BitVec 64
def LO(x:Int):BV:=ZL 64 x
def kA(X:BV):LO X.toInt=X:=BitVec.ofInt_toInt
def al0(X:BV):ZG .i64 (X.toNat:Int)=X.toInt:=by rw[aT,BitVec.toInt_eq_toNat_cond];have:=X.isLt;split<;>omega
def T3(x y:Int):Ac .or .i64 x y=(LO x ||| LO y).toInt:=al0 _
def kM(x y:Int):Ac .andNot .i64 x y=(LO x &&& ~~~ LO y).toInt:=al0 _
def jV(L:List BV):LL:=L.map fun x=>[x.toInt]
def abb(L:List BV):(jV L).length=L.length:=by simp[jV]
def oV{L:List BV}{i:Nat}(h:i<L.length):gt (jV L) i 0=(L.getD i 0).toInt:=by simp[gt,jV,h]
def aaw{L:List BV}{i:Nat}(h:i<L.length)(X:BV):st (jV L) i 0 X.toInt=jV (L.set i X):=by simp[st,jV,h,List.map_set]
def sub(a b:BV):Prop:=∀k,a.getLsbD k=ZB->b.getLsbD k=ZB
def sub_le{a b:BV}(h:sub a b):a.toNat<=b.toNat:=by
 have e:a ||| b=b:=BitVec.eq_of_getLsbD_eq fun k _=>by
  rw[BitVec.getLsbD_or];cases ha:a.getLsbD k with
  |false=>simp
  |true=>simp[h k ha]
 rw[<-e,BitVec.toNat_or];exact Nat.left_le_or
def nx(p:Prog)(i:Nat):List Nat:=(au1 p i).map fun r=>(r.getD 0 0).toNat
def wB(p:Prog)(i:Nat):BV:=LO (Vr (ab p.l i))
def rB(p:Prog)(i:Nat):BV:=LO (Dy (ab p.l i))
def O7(I:List BV)(l:List Nat)(a:BV):BV:=l.foldl (fun a m=>a ||| I.getD m 0) a
def gj(I:List BV)(k:Nat):∀(l:List Nat) (a:BV),(O7 I l a).getLsbD k=ZB↔a.getLsbD k=ZB\/∃m,m∈l/\(I.getD m 0).getLsbD k=ZB
 |[],a=>by simp[O7]
 |m::l,a=>by
   have:=gj I k l (a ||| I.getD m 0);unfold O7 at *;rw[List.foldl_cons,this,BitVec.getLsbD_or];simp only[fy,List.mem_cons];constructor
   .rintro ((h|h)|⟨x,h1,h2⟩)
    .exact .inl h
    .exact .inr ⟨m,.inl rfl,h⟩
    .exact .inr ⟨x,.inr h1,h2⟩
   .rintro (h|⟨x,rfl|h1,h2⟩)
    .exact .inl (.inl h)
    .exact .inl (.inr h2)
    .exact .inr ⟨x,h1,h2⟩
def J4(p:Prog)(I O:List BV):List BV:=(List.range p.l.length).map fun i=>O7 I (nx p i) (O.getD i 0)
def Qd(p:Prog)(O:List BV)(i:Nat):BV:=(O.getD i 0 &&& ~~~ wB p i) ||| rB p i
def Ii(p:Prog)(O:List BV):List BV:=(List.range p.l.length).map fun i=>Qd p O i
def yo(p:Prog)(I O:List BV):(J4 p I O).length=p.l.length:=by simp[J4]
def il(p:Prog)(O:List BV):(Ii p O).length=p.l.length:=by simp[Ii]
def vu{p:Prog}{I O:List BV}{i:Nat}(h:i<p.l.length):(J4 p I O).getD i 0=O7 I (nx p i) (O.getD i 0):=by simp[J4,h]
def vv{p:Prog}{O:List BV}{i:Nat}(h:i<p.l.length):(Ii p O).getD i 0=Qd p O i:=by simp[Ii,h]
structure Inv(p:Prog)(I O:List BV):Prop where
 li:I.length=p.l.length
 lo:O.length=p.l.length
 up:∀i,i<p.l.length->sub (I.getD i 0) (Qd p O i)
 on:∀i,i<p.l.length->sub (O.getD i 0) (O7 I (nx p i) 0)
 rd:∀i k,(I.getD i 0).getLsbD k=ZB->∃j,j<p.l.length/\(rB p j).getLsbD k=ZB
def zd{p:Prog}{O:List BV}{i:Nat}(hk:k<64):(Qd p O i).getLsbD k=ZB↔(O.getD i 0).getLsbD k=ZB/\(wB p i).getLsbD k=ZC\/(rB p i).getLsbD k=ZB:=by unfold Qd;rw[BitVec.getLsbD_or,BitVec.getLsbD_and,BitVec.getLsbD_not];simp[hk]
def Xk{a:BV}(h:a.getLsbD k=ZB):k<64:=by
 rcases bC k 64 with h1|h1
 .exact h1
 .rw[BitVec.getLsbD_of_ge _ _ h1]at h;cases h
def Inv.zero(p:Prog):Inv p (ZM p.l.length 0) (ZM p.l.length 0) where
 li:=by simp
 lo:=by simp
 up:=fun i hi k h=>by simp[hi]at h
 on:=fun i hi k h=>by simp[hi]at h
 rd:=fun i k h=>by
  rcases bC i p.l.length with hi|hi
  .simp[hi]at h
  .simp[List.getD,List.getElem?_replicate,Nat.not_lt.2 hi]at h
def grow{p:Prog}{I O:List BV}(h:Inv p I O):∀i,sub (I.getD i 0) ((Ii p (J4 p I O)).getD i 0):=fun i k hk=>by
 rcases bC i p.l.length with hi|hi
 .rw[vv hi,zd (Xk hk)];rcases(zd (Xk hk)).1 (h.up i hi k hk)with⟨h1,h2⟩|h1
  .exact .inl ⟨by rw[vu hi];exact(gj _ _ _ _).2 (.inl h1),h2⟩
  .exact .inr h1
 .simp[List.getD,cn (h.li▸hi)]at hk
def Inv.step{p:Prog}{I O:List BV}(h:Inv p I O):Inv p (Ii p (J4 p I O)) (J4 p I O) where
 li:=il _ _
 lo:=yo _ _ _
 up:=fun i hi k hk=>by rw[vv hi]at hk;exact hk
 on:=fun i hi k hk=>by
  rw[vu hi]at hk;have:∃m,m∈nx p i/\(I.getD m 0).getLsbD k=ZB:=by
   rcases(gj _ _ _ _).1 hk with h1|h1
   .rcases(gj _ _ _ _).1 (h.on i hi k h1)with h2|h2
    .simp at h2
    .exact h2
   .exact h1
  obtain⟨m,h1,h2⟩:=this;exact(gj _ _ _ _).2 (.inr ⟨m,h1,grow h m k h2⟩)
 rd:=fun i k hk=>by
  rcases bC i p.l.length with hi|hi
  .rw[vv hi]at hk;rcases(zd (Xk hk)).1 hk with⟨h1,_⟩|h1
   .rw[vu hi]at h1;rcases(gj _ _ _ _).1 h1 with h2|⟨m,_,h2⟩
    .rcases(gj _ _ _ _).1 (h.on i hi k h2)with h3|⟨m,_,h3⟩
     .simp at h3
     .exact h.rd m k h3
    .exact h.rd m k h2
   .exact⟨i,hi,h1⟩
  .simp[List.getD,cn ((il p (J4 p I O)).symm▸hi)]at hk
structure Fix(p:Prog)(I O:List BV):Prop where
 li:I.length=p.l.length
 lo:O.length=p.l.length
 ii:∀i,i<p.l.length->I.getD i 0=Qd p O i
 oo:∀i,i<p.l.length->O.getD i 0=O7 I (nx p i) 0
 rd:∀i k,(I.getD i 0).getLsbD k=ZB->∃j,j<p.l.length/\(rB p j).getLsbD k=ZB
def Inv.fix{p:Prog}{I O:List BV}(h:Inv p I O)(he:Ii p (J4 p I O)=I):Fix p I (J4 p I O) where
 li:=h.li
 lo:=yo _ _ _
 ii:=fun i hi=>by conv=>lhs;rw[<-he]
                  exact vv hi
 oo:=fun i hi=>by
  rw[vu hi];refine BitVec.eq_of_getLsbD_eq fun k hk=> ?_;rw[ao,gj,gj];constructor
  .rintro (h1|h1)
   .exact(gj _ _ _ _).1 (h.on i hi k h1)
   .exact .inr h1
  .rintro (h1|h1)
   .simp at h1
   .exact .inr h1
 rd:=h.rd
def alS{p:Prog}(h:lU p n=ZA e):e≠0:=by
 unfold lU at h;split at h
 .cases h;decide
 .split at h
  .cases h;decide
  .exact Xo
def vQ{p:Prog}:∀(m n:Nat) {r:Int×Int},Dr p m n=ZA r->r.2≠0
 |0,_,_,h=>by cases h
 |m+1,n,r,h=>by
   unfold Dr at h;split at h
   next e he=>cases h;exact alS he
   .exact vQ m (n+1) h
def vR{p:Prog}:∀(m n:Nat),Dr p m n=ZE->∀j,j<m->lU p ((n+j:Nat):Int)=ZE
 |0,_,_,j,hj=>by omega
 |m+1,n,h,j,hj=>by
   unfold Dr at h;split at h
   .exact Xo
   .rename_i he;cases j with
    |zero=>exact he
    |succ j=>rw[show n+(j+1)=(n+1)+j by omega];exact vR m (n+1) h j Fn
def cL{p:Prog}(hl:p.l.length<=maxLen)(h:(aY p).2=0):(p.last=(p.l.length:Int)-1/\1<=p.l.length/\p.l.length<=64)/\(∀n:Nat,n<p.l.length->lU p n=ZE)/\((ab p.l p.last).k=4\/(ab p.l p.last).k=6):=by
 unfold aY at h;split at h
 .exact Xo
 split at h
 .exact Xo
 rename_i _ c1;have c1:(decide (0<=p.last)&&decide (p.last<=63))=ZB:=by simpa using c1
 split at h
 next r hr=>exact ai h (vQ _ _ hr)
 rename_i hs;split at h
 next hk=>exact⟨zg c1 hl,fun n hn=>by simpa using vR _ 0 hs n hn,hk⟩
 .exact Xo
structure Ways(p:Prog)(m j:Nat)(ws:LL):Prop where
 snd:∀r,r∈ws->∃i k:Nat,(i<m/\k∈nx p i\/i=m/\k∈(nx p m).take j)/\r=[(i:Int),(k:Int),1]
 cmp:∀i k:Nat,(i<m/\k∈nx p i\/i=m/\k∈(nx p m).take j)->[(i:Int),(k:Int),1]∈ws
 len:ws.length<=2*m+j
def Ways.nil(p:Prog):Ways p 0 0 []:=⟨fun r h=>by simp at h,fun i k h=>by simp at h,ZK _⟩
def Ways.out{p:Prog}(h:Ways p m j ws)(hj:j=(nx p m).length)(h2:(nx p m).length<=2):Ways p (m+1) 0 ws where
 snd:=fun r hr=>by
  obtain⟨i,k,h1,rfl⟩:=h.snd r hr;refine⟨i,k,.inl ?_,rfl⟩;rw[hj,List.take_length]at h1;rcases h1 with⟨h3,h4⟩|⟨rfl,h4⟩
  .exact⟨by omega,h4⟩
  .exact⟨by omega,h4⟩
 cmp:=fun i k Ly=>h.cmp i k (by
  rw[hj,List.take_length];rcases Ly with⟨h3,h4⟩|⟨_,h4⟩
  .rcases bC i m with h5|h5
   .exact .inl ⟨h5,h4⟩
   .obtain rfl:i=m:=by omega
    exact .inr ⟨rfl,h4⟩
  .simp at h4)
 len:=by have:=h.len;omega
def Ways.more{p:Prog}{SB:LL}(h:Ways p m j ws)(hk:(nx p m)[j]? =ZA k)(hs:∀r,r∈SB↔r∈ws\/r=[(m:Int),(k:Int),1])(hl:SB.length<=ws.length+1):Ways p m (j+1) SB:=by
 have ht:∀x,x∈(nx p m).take (j+1)↔x∈(nx p m).take j\/x=k:=fun x=>by rw[List.take_add_one,hk];simp
 refine⟨fun r hr=> ?_,fun i x hx=> ?_,by have:=h.len;omega⟩
 .rcases(hs r).1 hr with h1|h1
  .obtain⟨i,x,h2,rfl⟩:=h.snd r h1;refine⟨i,x,?_,rfl⟩;rcases h2 with h2|⟨h2,h3⟩
   .exact .inl h2
   .exact .inr ⟨h2,(ht x).2 (.inl h3)⟩
  .exact⟨m,k,.inr ⟨rfl,(ht k).2 (.inr rfl)⟩,h1⟩
 .rcases hx with h1|⟨rfl,h1⟩
  .exact(hs _).2 (.inl (h.cmp i x (.inl h1)))
  .rcases(ht x).1 h1 with h2|rfl
   .exact(hs _).2 (.inl (h.cmp i x (.inr ⟨rfl,h2⟩)))
   .exact(hs _).2 (.inr rfl)
def Ways.app{p:Prog}(h:Ways p m j ws)(hk:(nx p m)[j]? =ZA k):Ways p m (j+1) (ws++[[(m:Int),(k:Int),1]]):=h.more hk (fun r=>by simp) (by simp)
def aqa{key:List Int}(h:Gp L key<(L.length:Int)):∃(i:Nat) (hi:i<L.length),Gp L key=(i:Int)/\(L[i].take key.length==key)=ZB:=by
 have hi:L.findIdx (fun r=>r.take key.length==key)<L.length:=by unfold Gp at h;omega
 exact⟨_,hi,rfl,List.findIdx_getElem (w:=hi)⟩
def Ways.put{p:Prog}(h:Ways p m j ws)(hk:(nx p m)[j]? =ZA k)(hm:Gp ws [(m:Int),(k:Int)]<(ws.length:Int)):Ways p m (j+1) (ws.set (Gp ws [(m:Int),(k:Int)]).toNat [(m:Int),(k:Int),1]):=by
 obtain⟨i,hi,he,ht⟩:=aqa hm;have hr:ws[i]=[(m:Int),(k:Int),1]:=by obtain⟨a,b,_,h2⟩:=h.snd _ (List.getElem_mem hi);rw[h2]at ht ⊢;simp at ht;simp[ht]
 have:ws.set (Gp ws [(m:Int),(k:Int)]).toNat [(m:Int),(k:Int),1]=ws:=by rw[he,<-hr];simp
 rw[this];refine h.more hk (fun r=>⟨.inl,fun h1=>h1.elim id fun h2=> ?_⟩) (Nat.le_succ _);rw[h2,<-hr];exact List.getElem_mem hi
structure Seen(p:Prog)(I O:List BV)(ws L V:LL):Prop where
 ex:∃(X:List BV) (un:List Nat),L=jV X/\X.length=p.l.length/\un.length+V.length=ws.length/\(∀v:Nat,v<ws.length->[(v:Int)]∈V\/v∈un)/\
  ∀i,i<p.l.length->∀k,(X.getD i 0).getLsbD k=ZB↔(O.getD i 0).getLsbD k=ZB\/∃v m:Nat,[(v:Int)]∈V/\ws[v]? =ZA [(i:Int),(m:Int),1]/\(I.getD m 0).getLsbD k=ZB
def Seen.init(p:Prog)(I O:List BV)(ws:LL)(hO:O.length=p.l.length):Seen p I O ws (jV O) []:=⟨O,List.range ws.length,rfl,hO,by simp,fun v hv=>.inr (by simpa using hv),fun i _ k=>by simp⟩
def Seen.step{p:Prog}{I O:List BV}{V:LL}(h:Seen p I O ws L V){v a b:Nat}(hI:I.length=p.l.length)(hv:[(v:Int)] ∉ V)(hw:ws[v]? =ZA [(a:Int),(b:Int),1])(ha:a<p.l.length)(hb:b<p.l.length):
  Seen p I O ws (st L a 0 (Ac .or .i64 (gt L a 0) (gt (jV I) b 0))) (V++[[(v:Int)]]):=by
 obtain⟨X,un,rfl,hX,hl,hu,Ex⟩:=h.ex;have Qa:v<ws.length:=(cZ.1 hw).1;have D0:v∈un:=(hu v Qa).elim (fun h=>(hv h).elim) id;rw[oV (hX▸ha),oV (hI▸hb),T3,kA,kA,aaw (hX▸ha)];refine⟨X.set a (X.getD a 0 ||| I.getD b 0),un.erase v,rfl,by simp[hX],?_,fun w hwl=> ?_,fun i hi k=> ?_⟩
 .have:=List.length_erase_of_mem D0;have:0<un.length:=List.length_pos_of_mem D0;simp;omega
 .rcases hu w hwl with h1|h1
  .exact .inl (by simp[h1])
  .by_cases hwv:w=v
   .exact .inl (by simp[hwv])
   .exact .inr ((List.mem_erase_of_ne hwv).2 h1)
 .have OQ:(X.set a (X.getD a 0 ||| I.getD b 0)).getD i 0=if a=i then X.getD a 0 ||| I.getD b 0 else X.getD i 0:=by
   simp only[bZ,em];split
   .simp[hX,ha]
   .rfl
  rw[OQ];by_cases hai:a=i
  .subst hai;rw[ae rfl,BitVec.getLsbD_or,fy,Ex a ha k];constructor
   .rintro ((h1|⟨w,m,h1,h2,h3⟩)|h1)
    .exact .inl h1
    .exact .inr ⟨w,m,by simp[h1],h2,h3⟩
    .exact .inr ⟨v,b,by simp,hw,h1⟩
   .rintro (h1|⟨w,m,h1,h2,h3⟩)
    .exact .inl (.inl h1)
    .rcases ZY.1 h1 with h4|h4
     .exact .inl (.inr ⟨w,m,h4,h2,h3⟩)
     .have:w=v:=by
       have:[(w:Int)]=[(v:Int)]:=by simpa using h4
       injection this with this;exact Int.ofNat_inj.1 this
      rw[this,hw]at h2;have:b=m:=by have h2:=Option.some.inj h2;simp only[Be]at h2;exact Int.ofNat_inj.1 h2.2.1
      exact .inr (this▸h3)
  .rw[aa hai,Ex i hi k];constructor
   .rintro (h1|⟨w,m,h1,h2,h3⟩)
    .exact .inl h1
    .exact .inr ⟨w,m,by simp[h1],h2,h3⟩
   .rintro (h1|⟨w,m,h1,h2,h3⟩)
    .exact .inl h1
    .rcases ZY.1 h1 with h4|h4
     .exact .inr ⟨w,m,h4,h2,h3⟩
     .have:w=v:=by
       have:[(w:Int)]=[(v:Int)]:=by simpa using h4
       injection this with this;exact Int.ofNat_inj.1 this
      rw[this,hw]at h2;have:a=i/\b=m:=by have h2:=Option.some.inj h2;simp only[Be]at h2;exact⟨Int.ofNat_inj.1 h2.1,Int.ofNat_inj.1 h2.2.1⟩
      exact(hai this.1).elim
def Seen.len{p:Prog}{I O:List BV}{V:LL}(h:Seen p I O ws L V):L.length=p.l.length:=by obtain⟨X,un,rfl,hX,_⟩:=h.ex;rw[abb,hX]
def Seen.done{p:Prog}{I O:List BV}{V:LL}(h:Seen p I O ws L V)(hw:Ways p p.l.length 0 ws)(he:¬V.length<ws.length):L=jV (J4 p I O):=by
 obtain⟨X,un,rfl,hX,hl,hu,hb⟩:=h.ex;obtain rfl:un=[]:=List.eq_nil_of_length_eq_zero Fn;congr 1;refine List.ext_getElem (by rw[hX,yo]) fun i h1 h2=> ?_;have hi:i<p.l.length:=hX▸h1;have e1:X[i]=X.getD i 0:=by simp[h1]
 have e2:(J4 p I O)[i]=(J4 p I O).getD i 0:=by simp[h2]
 rw[e1,e2,vu hi];refine BitVec.eq_of_getLsbD_eq fun k hk=> ?_;rw[ao,hb i hi k,gj];constructor
 .rintro (h3|⟨v,m,h3,h4,h5⟩)
  .exact .inl h3
  .obtain⟨a,c,h6,h7⟩:=hw.snd _ (fI h4);simp only[Be,Int.natCast_inj,and_true]at h7;obtain⟨rfl,rfl⟩:=h7;rcases h6 with⟨_,h6⟩|⟨_,h6⟩
   .exact .inr ⟨m,h6,h5⟩
   .simp at h6
 .rintro (h3|⟨m,h3,h5⟩)
  .exact .inl h3
  .obtain⟨v,hv,h4⟩:=List.getElem_of_mem (hw.cmp i m (.inl ⟨hi,h3⟩));exact .inr ⟨v,m,(hu v hv).elim id (fun h=>by simp at h),by rw[AH hv,h4],h5⟩
structure Wrote(p:Prog)(I O:List BV)(m:Nat)(b:Bool)(L:LL):Prop where
 ll:L=jV ((Ii p O).take m++I.drop m)
 bb:b=ZB↔(Ii p O).take m≠I.take m
def Wrote.init(p:Prog)(I O:List BV):Wrote p I O 0 ZC (jV I):=⟨by simp,by simp⟩
def Wrote.len{p:Prog}{I O:List BV}{b:Bool}(h:Wrote p I O m b L)(hI:I.length=p.l.length)(hm:m<=p.l.length):L.length=p.l.length:=by rw[h.ll,abb];simp[il,hI];omega
def Wrote.old{p:Prog}{I O:List BV}{b:Bool}(h:Wrote p I O m b L)(hI:I.length=p.l.length)(hm:m<p.l.length):gt L m 0=(I.getD m 0).toInt:=by rw[h.ll,oV (by simp[il,hI];omega)];congr 1;simp[bZ,List.getElem?_append,il,Nat.min_eq_left (Nat.le_of_lt hm)]
def Wrote.step{p:Prog}{I O:List BV}{b:Bool}(h:Wrote p I O m b L)(hI:I.length=p.l.length)(hO:O.length=p.l.length)(hm:m<p.l.length):
  Wrote p I O (m+1) (b ||!((Ac .or .i64 (Ac .andNot .i64 (gt (jV O) m 0) (Vr (ab p.l m))) (Dy (ab p.l m)))==gt L m 0)) (st L m 0 (Ac .or .i64 (Ac .andNot .i64 (gt (jV O) m 0) (Vr (ab p.l m))) (Dy (ab p.l m)))):=by
 have hx:Ac .or .i64 (Ac .andNot .i64 (gt (jV O) m 0) (Vr (ab p.l m))) (Dy (ab p.l m))=((Ii p O).getD m 0).toInt:=by rw[oV (hO▸hm),T3,kM,kA,kA,vv hm];rfl
 rw[hx,h.old hI hm];have h1:(Ii p O)[m]? =ZA ((Ii p O).getD m 0):=by simp[AH (show m<(Ii p O).length by rw[il];exact hm)]
 have h2:I[m]? =ZA (I.getD m 0):=by simp[AH (show m<I.length by rw[hI];exact hm)]
 constructor
 .rw[h.ll,aaw (by simp[il,hI];omega)];congr 1;refine List.ext_getElem? fun i=> ?_;rw[em];simp only[List.getElem?_append,eo,YZ,List.length_drop,il,hI,List.getElem?_take,List.getElem?_drop,Nat.min_eq_left (Nat.le_of_lt hm),Nat.min_eq_left (show m+1<=p.l.length from hm)];by_cases h3:m=i
  .subst h3;rw[ae rfl,ae Fn,ae Fn,ae Fn,h1]
  .rw[aa h3];by_cases h4:i<m
   .rw[ae h4,ae h4,ae Fn,ae Fn]
   .rw[aa h4,aa Fn];congr 1;omega
 .rw[List.take_add_one,List.take_add_one,h1,h2];simp only[fy,h.bb,Option.toList_some,ZO,jJ];constructor
  .rintro (h3|h3) he
   .exact h3 (List.append_inj_left' he rfl)
   .have:=List.append_inj_right' he rfl;simp only[Be,and_true]at this;exact h3 (by rw[this])
  .intro hn;by_cases h3:(Ii p O).take m=I.take m
   .right;intro h4;exact hn (by rw[h3,BitVec.eq_of_toInt_eq h4])
   .exact .inl h3
def Wrote.done{p:Prog}{I O:List BV}{b:Bool}(h:Wrote p I O m b L)(hI:I.length=p.l.length)(hm:m=p.l.length):L=jV (Ii p O)/\(b=ZB↔Ii p O≠I):=by have h1:=h.ll;have h2:=h.bb;rw[hm,List.take_of_length_le (by rw[il];exact ZK _),List.take_of_length_le (by rw[hI];exact ZK _)]at h2;rw[hm,List.take_of_length_le (by rw[il];exact ZK _),List.drop_of_length_le (by rw[hI];exact ZK _),ZP]at h1;exact⟨h1,h2⟩
def Ins.eta(a:Ins):(⟨a.k,a.op,a.w,a.sz,a.br,a.d,a.s,a.off,a.imm⟩:Ins)=a:=rfl
def rd_Ins(k:Ins->List Dt->List Dt):List Dt->List Dt
 |.z z0::.z z1::.z z2::.z z3::.z z4::.z z5::.z z6::.z z7::.z z8::r=>k ⟨z0,z1,z2,z3,(z4==1),z5,z6,z7,z8⟩ r
 |_=>[]
def Ins.ok(a:Ins):Prop:=Ae .i8 a.k=ZB/\Ae .i8 a.op=ZB/\Ae .i8 a.w=ZB/\Ae .i8 a.sz=ZB/\Ae .i8 a.d=ZB/\Ae .i8 a.s=ZB/\Ae .i64 a.off=ZB/\Ae .i64 a.imm=ZB
def kIns:List CK:=[.int .i8,.int .i8,.int .i8,.int .i8,.bool,.int .i8,.int .i8,.int .i64,.int .i64]
def v_Ins(t:List VK):List VK:=.int .i8::.int .i8::.int .i8::.int .i8::.bool::.int .i8::.int .i8::.int .i64::.int .i64::t
def d_Ins(a:Ins)(t:List Dt):List Dt:=.z a.k::.z a.op::.z a.w::.z a.sz::.z (AD a.br)::.z a.d::.z a.s::.z a.off::.z a.imm::t
def iW{l:List VK}{p:List Dt->Prop}(h:∀a:Ins,Ins.ok a->aS l fun r=>p (d_Ins a r)):aS (v_Ins l) p:=fun x0 C6 x1 Do x2 Ge x3 Gf x4 x5 KL x6 LX x7 LY x8 LZ=>h ⟨x0,x1,x2,x3,x4,x5,x6,x7,x8⟩ ⟨C6,Do,Ge,Gf,KL,LX,LY,LZ⟩
def eB:=aI @v_Ins.eq_1 (aI @d_Ins.eq_1 (aI @rd_Ins.eq_1 (@kIns.eq_1)))
def Prog.eta(a:Prog):(⟨a.ctx,a.l⟩:Prog)=a:=rfl
def rd_Prog(k:Prog->List Dt->List Dt):List Dt->List Dt
 |.z z0::.l z1::r=>k ⟨z0,z1⟩ r
 |_=>[]
def Prog.ok(a:Prog):Prop:=Ae .i64 a.ctx=ZB/\RowsIn (kN 9 220090000) a.l
def kProg:List CK:=[.int .i64,.sl (kN 9 220090000) 66]
def v_Prog(t:List VK):List VK:=.int .i64::.list (kN 9 220090000)::t
def d_Prog(a:Prog)(t:List Dt):List Dt:=.z a.ctx::.l a.l::t
def gX{l:List VK}{p:List Dt->Prop}(h:∀a:Prog,Prog.ok a->aS l fun r=>p (d_Prog a r)):aS (v_Prog l) p:=fun x0 C6 x1 Do=>h ⟨x0,x1⟩ ⟨C6,Do⟩
def wI(k:Prog->List Dt->List Dt)(a:Prog)(t:List Dt):rd_Prog k (d_Prog a t)=k a t:=rfl
def dN:=aI @v_Prog.eq_1 (aI @d_Prog.eq_1 (aI @rd_Prog.eq_1 (@kProg.eq_1)))
def lX:List C:=[.int .i8 (.p 0),.int .i8 (.p 0),.int .i8 (.p 0),.int .i8 (.p 0),.bool (.tt ZC),.int .i8 (.p 0),.int .i8 (.p 0),.int .i64 (.p 0),.int .i64 (.p 0)]
def iq:Tryz.prog.eqGuardType Tryz.prog.depth 66=ZC:=by kernel_rfl
def zE:Tryz.prog.cellsOf 66=9:=by kernel_rfl
def zF:Tryz.prog.cellsOf 38=1:=by kernel_rfl
def adw:Tryz.prog.cellsOf 4=1:=by kernel_rfl
def adC:Tryz.prog.cellsOf 3=1:=by kernel_rfl
def asN(vs:List Value)(hv:aL vs lX):Tryz.prog.keyLits 6 66 vs=ZA (cV vs):=by obtain⟨x0,_,rfl,g0,hv⟩:=ah hv;obtain⟨x1,_,rfl,g1,hv⟩:=ah hv;obtain⟨x2,_,rfl,g2,hv⟩:=ah hv;obtain⟨x3,_,rfl,g3,hv⟩:=ah hv;obtain⟨x4,_,rfl,hv⟩:=dW hv;obtain⟨x5,_,rfl,g5,hv⟩:=ah hv;obtain⟨x6,_,rfl,g6,hv⟩:=ah hv;obtain⟨x7,_,rfl,g7,hv⟩:=ah hv;obtain⟨x8,_,rfl,g8,hv⟩:=ah hv;obtain rfl:=bT hv;simp[Program.keyLits,underlying66,underlying38,underlying4,underlying3,zE,zF,adw,adC,TS,cV,g0,g1,g2,g3,g5,g6,g7,g8]
def atP(vs:List Value)(hv:aL vs lX):(Value.agg vs.toArray).formed ZF 66=ZB:=by obtain⟨x0,_,rfl,g0,hv⟩:=ah hv;obtain⟨x1,_,rfl,g1,hv⟩:=ah hv;obtain⟨x2,_,rfl,g2,hv⟩:=ah hv;obtain⟨x3,_,rfl,g3,hv⟩:=ah hv;obtain⟨x4,_,rfl,hv⟩:=dW hv;obtain⟨x5,_,rfl,g5,hv⟩:=ah hv;obtain⟨x6,_,rfl,g6,hv⟩:=ah hv;obtain⟨x7,_,rfl,g7,hv⟩:=ah hv;obtain⟨x8,_,rfl,g8,hv⟩:=ah hv;obtain rfl:=bT hv;kernel_rfl
def ly(vs us:List Value)(hv:aL vs lX)(hu:aL us lX)(w:World):(Op.equal 66 (.agg vs.toArray) (.agg us.toArray)).run ZF w=.ok (Dh vs us) w:=iI (by kernel_rfl) atP 6 asN vs us hv hu w
def gZ:=aI Ins.eta (Prog.eta)
def gk{q:Prop}(k:q2)(h:p->q=q2:=by intro e;(try simp only[e,gZ,aj,-eq_self]);rfl):p->q:=fun e=>(h e).symm▸k
def aeB:List (Nat×TI):=[(3,CZ),
 (4,EK),
 (38,fY),
 (66,qZ)]
def fW:∀t i,(t,i)∈aeB->TIok ZF t i:=bl (DS (z:=lX) ⟨ly,iq⟩ B1) B1 (by kernel_rfl)
def c_iwi:Cd:=⟨27,[.one (.int .i64),.one (.int .i64),.one (.int .i64)],[.one .bool],rdZ fun n=>rdZ fun a=>rdZ fun b _=>[.z (AD ((decide (a<=n)&&decide (n<=b))))],T0⟩
def amB:Tr:=
(.br (.lt (.w 0) (.w 1))
 zlF
(.u (.j (.not (.lt (.w 2) (.w 0))) .nil)))
def QE:c_iwi.Ok ZF:=
 AU amB [.int .i64,.int .i64,.int .i64] fW AI func27<|fun n hn a ha b hb hp U g=>by
 simp only[AA,ZD]at g;simp only[amB,c_iwi,Ai,ZH,ZD,-eq_self,gZ,aj,g];apply aI<;>intro c0
 .exact X0
 .exact X0
def c_iwb:Cd:=⟨67,[.one (.int .i8),.one (.int .i8),.one (.int .i8)],[.one .bool],rdZ fun n=>rdZ fun a=>rdZ fun b _=>[.z (AD ((decide (a<=n)&&decide (n<=b))))],T0⟩
def amC:Tr:=
(.br (.lt (.w 0) (.w 1))
 zlF
(.u (.j (.not (.lt (.w 2) (.w 0))) .nil)))
def att:c_iwb.Ok ZF:=
 AU amC [.int .i8,.int .i8,.int .i8] fW AI func67<|fun n hn a ha b hb hp U g=>by
 simp only[AA,ZD]at g;simp only[amC,c_iwb,Ai,ZH,ZD,-eq_self,gZ,aj,g];apply aI<;>intro c0
 .exact X0
 .exact X0
def c_isz:Cd:=⟨106,[.one (.int .i8)],[.one .bool],rdZ fun n _=>[.z (AD (aR n))],T0⟩
def amD:Tr:=
(.br (.eq (.w 0) (.p 1))
 zlT
(.br (.eq (.w 0) (.p 2))
 zlT
(.br (.eq (.w 0) (.p 4))
 zlT
(.u (.j (.eq (.w 0) (.p 8)) .nil)))))
def avm:c_isz.Ok ZF:=
 AU amD [.int .i8] fW AI func106<|fun n hn hp U g=>by
 simp only[AA,ZD]at g;simp only[amD,c_isz,Ai,ZH,ZD,-eq_self,gZ,aj,g]
 .repeat' first|apply aI<;>intro c|exact Xt
def c_ibare:Cd:=⟨68,[.agg kIns],[.agg kIns,.one .bool],rd_Ins fun x _=>d_Ins ((cA x).1) [.z (AD ((cA x).2))],T0⟩
def aof:E:=(.zs [0,0,0] (.cons (.w 8) (.j (.s 9) .nil)))
def aog:Tr:=(.u (.cons (.w 0) (.cons (.p 0) (.cons (.p 0) (.cons (.w 3) (.j (.tt ZC) (.cons (.p 0) (.cons (.p 0) (.vs 7 2 (.j (.tt ZC) .nil))))))))))
def Us:Tr:=(.br (.s 4)
 aog
(.u (.cons (.w 0) (.cons (.p 0) (.cons (.p 0) (.cons (.w 3) (.j (.tt ZC) (.cons (.p 0) (.vs 6 2 (.cons (.p 0) (.j (.tt ZC) .nil)))))))))))
def aoh:Tr:=(.br (.lt (.w 5) (.p 10))
(.br (.eq (.w 1) (.p 8))
(.br (.s 4)
 aog
(.u (.cons (.w 0) (.cons (.p 0) (.cons (.p 0) (.cons (.w 3) (.j (.tt ZC) (.cons (.p 0) (.vs 6 2 (.cons (.p 0) (.j (.eq (.w 8) (.p 0)) .nil)))))))))))
(.br (.s 4)
(.u (.cons (.w 0) (.cons (.p 0) (.cons (.p 0) (.cons (.w 3) (.j (.tt ZC) (.cons (.p 0) (.cons (.p 0) (.vs 7 2 (.j (.tt ZB) .nil))))))))))
(.u (.cons (.w 0) (.cons (.p 0) (.cons (.p 0) (.cons (.w 3) (.j (.tt ZC) (.cons (.p 0) (.vs 6 2 (.cons (.p 0) (.j (.tt ZB) .nil))))))))))))
 Us)
def tQ:Tr:=
(.br (.eq (.w 0) (.p 0))
(.call 1 [.bool] (.cons (.w 1) (.cons (.p 0) (.cons (.p 12) .nil))) 9
(.br (.s 9)
(.br (.eq (.w 2) (.p 32))
 aoh
(.br (.eq (.w 2) (.p 64))
 aoh
 Us))
 Us))
(.br (.eq (.w 0) (.p 1))
(.call 2 [.bool] (.cons (.w 3) .nil) 9
(.br (.s 9)
(.u (.vs 0 3 (.cons (.p 0) (.j (.s 4) (.zs [0,0,0] (.cons (.w 8) (.j (.lt (.w 5) (.p 10)) .nil)))))))
(.u (.vs 0 3 (.cons (.p 0) (.j (.s 4) (.zs [0,0,0] (.cons (.w 8) (.j (.tt ZC) .nil)))))))))
(.br (.eq (.w 0) (.p 2))
(.call 2 [.bool] (.cons (.w 3) .nil) 9
(.u (.vs 0 3 (.cons (.p 0) (.j (.s 4) aof)))))
(.br (.eq (.w 0) (.p 3))
(.call 1 [.bool] (.cons (.w 1) (.cons (.p 0) (.cons (.p 10) .nil))) 9
(.br (.s 4)
(.u (.cons (.w 0) (.cons (.p 0) (.vs 2 2 (.j (.tt ZC) aof)))))
(.u (.cons (.w 0) (.cons (.p 0) (.vs 2 2 (.j (.tt ZC) (.cons (.p 0) (.cons (.w 6) (.cons (.p 0) (.cons (.p 0) (.j (.s 9) .nil))))))))))))
(.br (.eq (.w 0) (.p 4))
(.u (.vs 0 4 (.j (.s 4) (.vs 5 2 (.cons (.p 0) (.cons (.w 8) (.j (.tt ZB) .nil)))))))
(.br (.eq (.w 0) (.p 5))
(.call 0 [.bool] (.cons (.w 8) (.cons (.p 0) (.cons (.p 15) .nil))) 9
(.u (.vs 0 4 (.j (.s 4) (.vs 5 3 (.cons (.p 0) (.j (.s 9) .nil)))))))
(.br (.eq (.w 0) (.p 6))
(.u (.vs 0 4 (.j (.s 4) (.vs 5 4 (.j (.tt ZB) .nil)))))
(.u (.vs 0 4 (.j (.s 4) (.vs 5 4 (.j (.tt ZC) .nil))))))))))))
def aku:cg aeB (FV 0 [c_iwi,c_iwb,c_isz]) [(105,f105,[],[])] [] [] 200 f68 c_ibare.a c_ibare.r (tp c_ibare.r) (v_Ins []) tQ:=E4 (by kernel_rfl)
def aqH:c_ibare.Ok ZF:=
 GD tQ (v_Ins []) fW (Am QE<|Am att<|Am avm AI) func68 (Gw func105 EZ) aku<|iW fun x hx hp U g=>by
 simp only[eB,AA,ZD]at g;simp only[tQ,aoh,Us,aog,aof,c_iwi,c_iwb,c_isz,c_ibare,eB,Ai,ZH,ZD,-eq_self,gZ,aj,g]
 .repeat' first|apply aI<;>intro c|refine gk ?_|exact Xq
def c_nmay:Cd:=⟨28,[.agg kIns],[.one .bool],rd_Ins fun x _=>[.z (AD (A2 x))],T0⟩
def af6:Tr:=
(.call 1 [.bool] (.cons (.w 5) (.cons (.p 0) (.cons (.p 10) .nil))) 9
(.br (.s 9)
(.call 1 [.bool] (.cons (.w 6) (.cons (.p 0) (.cons (.p 10) .nil))) 10
(.br (.s 10)
(.call 0 [.bool] (.cons (.w 7) (.cons (.p (-32768)) (.cons (.p 32767) .nil))) 11
(.br (.s 11)
(.call 0 [.bool] (.cons (.w 8) (.cons (.p (-2147483648)) (.cons (.p 2147483647) .nil))) 12
(.br (.s 12)
(.call 2 (kIns++[.bool]) (.vs 0 4 (.j (.s 4) (.vs 5 4 .nil))) 13
(.br (.s 22)
(.u (.j (.and (.eq (.w 13) (.w 0)) (.and (.eq (.w 14) (.p 0)) (.and (.eq (.w 15) (.p 0)) (.and (.eq (.w 16) (.p 0)) (.and (.not (.s 17)) (.and (.eq (.w 18) (.p 0)) (.and (.eq (.w 19) (.p 0)) (.and (.eq (.w 20) (.p 0)) (.and (.eq (.w 21) (.p 0)) (.tt ZB)))))))))) .nil))
 zlF))
 zlF))
 zlF))
 zlF))
 zlF))
def amX:c_nmay.Ok ZF:=
 AU af6 (v_Ins []) fW (Am QE<|Am att<|Am aqH AI) func28<|iW fun x hx hp U g=>by
 simp only[eB,AA,ZD]at g;simp only[af6,c_iwi,c_iwb,c_ibare,c_nmay,eB,Ai,ZH,ZD,-eq_self,gZ,aj,g];refine gk ?_
 .repeat' first|apply aI<;>intro c|refine gk ?_|exact XN
def c_itgt:Cd:=⟨29,[.one (.int .i64),.agg kIns],[.one (.int .i64),.one .bool],rdZ fun i=>rd_Ins fun x _=>[.z ((AO i x).1),.z (AD ((AO i x).2))],T0⟩
def Ur:Tr:=(.u (.cons (.p 0) (.j (.tt ZC) .nil)))
def aod:E:=(.cons (.p (-1099511627776)) (.cons (.p 1099511627776) .nil))
def aoe:Tr:=(.call 0 [.bool] (.cons (.w 0) aod) 10
(.br (.s 10)
(.call 0 [.bool] (.cons (.w 8) aod) 11
(.br (.s 11)
(.u (.cons (.f .add .i64 (.f .add .i64 (.w 0) (.p 1)) (.w 8)) (.j (.tt ZB) .nil)))
 Ur))
 Ur))
def ags:Tr:=
(.br (.eq (.w 1) (.p 3))
 aoe
(.br (.eq (.w 1) (.p 4))
 aoe
 Ur))
def am3:c_itgt.Ok ZF:=
 AU ags (.int .i64::v_Ins []) fW (Am QE AI) func29<|fun i hi=>iW fun x hx hp U g=>by
 simp only[eB,AA,ZD]at g;simp only[ags,aoe,aod,Ur,c_iwi,c_itgt,eB,Ai,ZH,ZD,-eq_self,gZ,aj,g];apply aI<;>intro c0;refine gk ?_;apply aI<;>intro c1;refine gk ?_;apply aI<;>intro c2
 .rw[se (.inl (Bs c0)) c1 c2];try rfl
 .rw[sf c2];try rfl
 .rw[si c1];try rfl
 apply aI<;>intro c3;refine gk ?_;apply aI<;>intro c4;refine gk ?_;apply aI<;>intro c5
 .rw[se (.inr (Bs c3)) c4 c5];try rfl
 .rw[sf c5];try rfl
 .rw[si c4];try rfl
 .rw[am5 c0 c3];try rfl
def c_iargs:Cd:=⟨71,[.one (.int .i64)],[.one (.int .i64)],rdZ fun n _=>[.z (fO n)],T0⟩
def aa9:Tr:=
(.call 0 [.bool] (.cons (.w 0) (.cons (.p 0) (.cons (.p 15) .nil))) 1
(.br (.s 1)
(.u (.cons (.f .rem .i64 (.w 0) (.p 6)) .nil))
(.u (.cons (.p 0) .nil))))
def aqI:c_iargs.Ok ZF:=
 AU aa9 [.int .i64] fW (Am QE AI) func71<|fun n hn hp U g=>by
 simp only[AA,ZD]at g;simp only[aa9,c_iwi,c_iargs,Ai,ZH,ZD,-eq_self,gZ,aj,g];refine gk ?_;apply aI<;>intro c0
 .rw[aqQ c0];try rfl
 .rw[aqR c0];try rfl
def io(s:Sta):List Int:=[s.r0.k,s.r1.k,s.r2.k,s.r3.k,s.r4.k,s.r5.k,s.r6.k,s.r7.k,s.r8.k,s.r9.k,s.r10.k]
def Ao(s:Sta)(d:Int):Ty:=⟨[s.r0.k,s.r1.k,s.r2.k,s.r3.k,s.r4.k,s.r5.k,s.r6.k,s.r7.k,s.r8.k,s.r9.k,s.r10.k].getD d.toNat 0,[s.r0.ul,s.r1.ul,s.r2.ul,s.r3.ul,s.r4.ul,s.r5.ul,s.r6.ul,s.r7.ul,s.r8.ul,s.r9.ul,s.r10.ul].getD d.toNat 0,[s.r0.uh,s.r1.uh,s.r2.uh,s.r3.uh,s.r4.uh,s.r5.uh,s.r6.uh,s.r7.uh,s.r8.uh,s.r9.uh,s.r10.uh].getD d.toNat 0,[s.r0.sl,s.r1.sl,s.r2.sl,s.r3.sl,s.r4.sl,s.r5.sl,s.r6.sl,s.r7.sl,s.r8.sl,s.r9.sl,s.r10.sl].getD d.toNat 0,[s.r0.sh,s.r1.sh,s.r2.sh,s.r3.sh,s.r4.sh,s.r5.sh,s.r6.sh,s.r7.sh,s.r8.sh,s.r9.sh,s.r10.sh].getD d.toNat 0,[s.r0.v,s.r1.v,s.r2.v,s.r3.v,s.r4.v,s.r5.v,s.r6.v,s.r7.v,s.r8.v,s.r9.v,s.r10.v].getD d.toNat 0,[s.r0.m,s.r1.m,s.r2.m,s.r3.m,s.r4.m,s.r5.m,s.r6.m,s.r7.m,s.r8.m,s.r9.m,s.r10.m].getD d.toNat 0,[s.r0.lo,s.r1.lo,s.r2.lo,s.r3.lo,s.r4.lo,s.r5.lo,s.r6.lo,s.r7.lo,s.r8.lo,s.r9.lo,s.r10.lo].getD d.toNat 0,[s.r0.hi,s.r1.hi,s.r2.hi,s.r3.hi,s.r4.hi,s.r5.hi,s.r6.hi,s.r7.hi,s.r8.hi,s.r9.hi,s.r10.hi].getD d.toNat 0⟩
def D8(c:Bool)(a b:Ty):Ty:=⟨if c=ZB then a.k else b.k,if c=ZB then a.ul else b.ul,if c=ZB then a.uh else b.uh,if c=ZB then a.sl else b.sl,if c=ZB then a.sh else b.sh,if c=ZB then a.v else b.v,if c=ZB then a.m else b.m,if c=ZB then a.lo else b.lo,if c=ZB then a.hi else b.hi⟩
def amc(a b:Ty):D8 ZB a b=a:=rfl
def amd(a b:Ty):D8 ZC a b=b:=rfl
def BX(s:Sta)(d:Int)(t:Ty):Sta:=⟨D8 (d==0) t s.r0,D8 (d==1) t s.r1,D8 (d==2) t s.r2,D8 (d==3) t s.r3,D8 (d==4) t s.r4,D8 (d==5) t s.r5,D8 (d==6) t s.r6,D8 (d==7) t s.r7,D8 (d==8) t s.r8,D8 (d==9) t s.r9,D8 (d==10) t s.r10,s.s0,s.s1,s.s2,s.s3,s.s4,s.s5,s.s6,s.s7⟩
def Hm(t:Ty)(r:List Int):List Int:=t.k::t.ul::t.uh::t.sl::t.sh::t.v::t.m::t.lo::t.hi::r
def BI(s:Sta):List Int:=Hm s.r0 (Hm s.r1 (Hm s.r2 (Hm s.r3 (Hm s.r4 (Hm s.r5 (Hm s.r6 (Hm s.r7 (Hm s.r8 (Hm s.r9 (Hm s.r10 (Hm s.s0 (Hm s.s1 (Hm s.s2 (Hm s.s3 (Hm s.s4 (Hm s.s5 (Hm s.s6 (Hm s.s7 ([])))))))))))))))))))
def fC(s:Sta)(n:Nat):Bool:=(List.range 11).any fun k=>n.testBit k&&(io s).getD k 0==0
def cy(x:Ins)(s:Sta):Ty:=if x.br=ZB then Ao s x.s else DQ (Cb (ZG .u64 x.imm))
def kT{p:Prog}(hl:p.l.length<=maxLen)(h:(aY p).2=0)(h0:0<=i)(h1:i<(p.l.length:Int)):A2 (ab p.l i)=ZB:=by
 obtain⟨n,rfl⟩:=cj h0;have q:=(cL hl h).2.1 n Fn;cases e:A2 (ab p.l (n:Int))with
 |true=>rfl
 |false=>rw[qU e]at q;cases q
def yY:∀n,n<2048->0<n->Lib.ctz 64 n<11/\n.testBit (Lib.ctz 64 n)=ZB/\n &&& (n-1)<n/\Ac .and .i64 (n:Int) (Ac .sub .i64 (n:Int) 1)=((n &&& (n-1):Nat):Int)/\IntKind.u64.wrap (n:Int)=(n:Int)/\
  ∀k,k<11->(n &&& (n-1)).testBit k=(n.testBit k &&!(k==Lib.ctz 64 n)):=XZ
structure UInv(s:Sta)(R m:Nat):Prop where
 lt:m<2048
 sub:∀k,k<11->m.testBit k=ZB->R.testBit k=ZB
 set:∀k,k<11->R.testBit k=ZB->m.testBit k=ZC->(io s).getD k 0≠0
def UInv.init{s:Sta}(h:R<2048):UInv s R R:=⟨h,fun _ _ h=>h,fun k _ h1 h2=>by rw[h1]at h2;cases h2⟩
def UInv.next{s:Sta}(h:UInv s R m)(hm:0<m)(hk:((io s).getD (CO (ZG .u64 (m:Int))).toNat 0==0)=ZC):
  ∃m':Nat,Ac .and .i64 (m:Int) (Ac .sub .i64 (m:Int) 1)=(m':Int)/\UInv s R m'/\m'<m:=by
 obtain⟨b1,b2,b3,b4,b5,b6⟩:=yY m h.lt hm;rw[b5]at hk;have hk:=Ch hk;refine⟨m &&& (m-1),b4,⟨Nat.lt_trans b3 h.lt,fun k k1 k2=>h.sub k k1 ?_,fun k k1 k2 k3=> ?_⟩,b3⟩
 .rw[b6 k k1,ne]at k2;exact k2.1
 .rw[b6 k k1]at k3;cases e:m.testBit k with
  |false=>exact h.set k k1 k2 e
  |true=>
    rw[e]at k3;have:k=Lib.ctz 64 m:=by simpa using k3
    rw[this];exact hk
def UInv.bad{s:Sta}(h:UInv s R m)(hm:0<m)(hk:((io s).getD (CO (ZG .u64 (m:Int))).toNat 0==0)=ZB):fC s R=ZB:=by obtain⟨b1,b2,b3,b4,b5,b6⟩:=yY m h.lt hm;rw[b5]at hk;unfold fC;rw[List.any_eq_true];refine⟨Lib.ctz 64 m,List.mem_range.2 b1,?_⟩;rw[h.sub _ b1 b2];exact hk
def UInv.good{s:Sta}(h:UInv s R 0):fC s R=ZC:=by
 unfold fC;rw[List.any_eq_false];intro k hk;have k1:=List.mem_range.1 hk;cases e:R.testBit k with
 |false=>simp
 |true=>have:=h.set k k1 e (Nat.zero_testBit k);simpa using this
def auI(hm:0<m)(h:m<2048):0<=CO (ZG .u64 (m:Int))/\CO (ZG .u64 (m:Int))<11:=by obtain⟨b1,_,_,_,b5,_⟩:=yY m h hm;rw[b5];unfold CO;rw[cY];omega
def aeH:H5 tscal=ZB:=by decide
def aag:Bh tscal=ZB:=by decide
def vn:tset tscal=ZB:=by decide
def iA(h0:0<=v)(h1:v<=18446744073709551615):aU tscal v=ZB:=by rw[nq aag rfl];show A3 vall v=ZB;exact fx (a:=vall) (kU v h0 h1) (mO v)
def ahD{a b:Kn}(_:eJ a b=ZB):Bz (ju a b)=ZB:=by unfold ju;split<;>first|exact xe _ _|exact akQ
def ajC{a:Sc}(h1:MA a=ZB)(h2:MB a=ZB):Bf (Jv a)=ZB:=by unfold Bf;rw[ne];exact⟨(ajW h1).2,ahD h2⟩
def jE{a:Sc}:Bf (Cj a)=ZB:=by
 unfold Cj;split
 next h=>unfold Dc at h;simp only[ne]at h;exact ajC h.2.2.2.1 h.2.2.2.2
 .exact ST
def yc{t:Ty}(h:Bh t=ZB)(hk:t.k=1):Bf t.s=ZB:=by unfold Bh at h;rw[aa Fn,ae hk,ne]at h;exact h.1
def yb{t:Ty}(h:Bh t=ZB)(hk:t.k=2\/t.k=3):cr t=ZB/\t.lo<=t.hi /\ -1048576<=t.lo/\t.hi<=1048576:=by unfold Bh at h;rw[aa Fn,aa Fn,ae hk]at h;simp only[ne,aE]at h;exact h
def ad9{a b:Sc}:Bf (if w=ZB then DJ a b else jF a b)=ZB:=by
 cases w with
 |true=>rw[ae rfl];unfold DJ;split;exact jE;decide
 |false=>rw[aa (by simp)];unfold jF;split;exact jE;decide
def Sf{a b:Ty}(ha:a.lo<=a.hi /\ -1048576<=a.lo/\a.hi<=1048576)(hb:b.lo<=b.hi /\ -1048576<=b.lo/\b.hi<=1048576):Hx w a b<=a.lo/\Hx w a b<=b.lo/\a.hi<=Hw w a b/\b.hi<=Hw w a b /\ -1048576<=Hx w a b/\Hw w a b<=1048576:=by unfold Hx Hw;split<;>split<;>omega
def tv{a b:Ty}(ha:Bh a=ZB)(hb:Bh b=ZB):Bh (cP w a b)=ZB:=by
 unfold cP ek;split
 .rfl
 split
 .exact aag
 rename_i h0 h1;have h1:a.k=b.k:=Classical.not_not.1 h1;split
 next hk=>show Bh (ty 1 _ 0 0)=ZB;unfold Bh;rw[aa (by show¬(1:Int)=0;omega),ae (show(ty 1 _ 0 0).k=1 from rfl)];rw[ne];exact⟨ad9,rfl⟩
 .rename_i hk;have D3:a.k=2\/a.k=3:=by
   rcases fX ha with h|h|h|h
   .exact ai (.inl h) h0
   .exact ai h hk
   .exact .inl h
   .exact .inr h
  have pa:=(yb ha D3).2;have pb:=(yb hb (h1▸D3)).2;have q:=Sf (w:=w) pa pb;unfold Bh;rw[aa (by show¬a.k=0;omega),aa (by show¬a.k=1;omega),ae D3];simp only[cr,ne,aE];exact⟨by decide,by show Hx w a b<=Hw w a b;omega,q.2.2.2.2.1,q.2.2.2.2.2⟩
def iM(h:A3 s v=ZB):aU (ty 1 s 0 0) v=ZB:=by
 have hm:Bh (ty 1 s 0 0)=ZB:=by unfold Bh;rw[aa (by show¬(1:Int)=0;omega),ae (show(ty 1 _ 0 0).k=1 from rfl),ne];exact⟨eR h,rfl⟩
 rw[nq hm rfl];exact h
def mh{t:Ty}(h:aU t v=ZB):Bh t=ZB:=by unfold aU at h;rw[ne]at h;exact h.1
def vt{t:Ty}(hk:t.k=2\/t.k=3)(h:aU t v=ZB):t.lo<=D9 t v/\D9 t v<=t.hi:=by unfold aU at h;rw[aa Fn,aa Fn,ne,ne]at h;exact⟨Ah h.2.1,Ah h.2.2⟩
def ajR{t:Ty}(ht:Bh t=ZB)(hk:t.k=2\/t.k=3)(h:t.lo<=D9 t v/\D9 t v<=t.hi):aU t v=ZB:=by unfold aU;rw[aa Fn,aa Fn,ht,dm h.1,dm h.2];rfl
def aak{t:Ty}(hk:t.k=1)(h:aU t v=ZB):A3 t.s v=ZB:=by rw[nq (mh h) hk]at h;exact h
def rD{a b:Ty}(wa:a.s.wf)(wb:b.s.wf)(ha:Bh a=ZB)(hb:Bh b=ZB)(hv:0<=v/\v<=18446744073709551615)(h:aU a v=ZB\/aU b v=ZB):aU (cP w a b) v=ZB:=by
 have hj:=tv (w:=w) ha hb;unfold cP ek at hj ⊢;split
 .rfl
 split
 .exact iA hv.1 hv.2
 rename_i h0 h1;rw[aa h0,aa h1]at hj;have h1:a.k=b.k:=Classical.not_not.1 h1;split
 .rename_i hk;have B2:b.k=1:=h1▸hk;have hh:A3 a.s v=ZB\/A3 b.s v=ZB:=h.imp (aak hk) (aak B2);apply iM;cases w with
  |true=>rw[ae rfl];exact zW wa wb hv (yc ha hk) (yc hb B2) hh
  |false=>rw[aa (by simp)];exact uY wa wb hv (yc ha hk) (yc hb B2) hh
 .rename_i hk;rw[aa hk]at hj;have D3:a.k=2\/a.k=3:=by
   rcases fX ha with h|h|h|h
   .exact ai (.inl h) h0
   .exact ai h hk
   .exact .inl h
   .exact .inr h
  have q:=Sf (w:=w) (yb ha D3).2 (yb hb (h1▸D3)).2;refine ajR hj D3 ?_;have e:bV ⟨a.k,0,0,0,0,0,0,Hx w a b,Hw w a b⟩=bV a:=rfl;have e2:bV b=bV a:=by unfold bV;rw[h1]
  rcases h with h|h
  .have g:=vt D3 h;unfold D9 at g ⊢;rw[e];exact⟨by show Hx w a b<=_;omega,by show _<=Hw w a b;omega⟩
  .have g:=vt (h1▸D3) h;unfold D9 at g ⊢;rw[e,<-e2];exact⟨by show Hx w a b<=_;omega,by show _<=Hw w a b;omega⟩
def akz{a b:Ty}(wa:a.s.wf)(wb:b.s.wf)(ha:Bh a=ZB)(hb:Bh b=ZB){set:Int}(hv:0<=v/\v<=18446744073709551615)(h:rok set i a v=ZB\/rok set i b v=ZB):rok set i (cP w a b) v=ZB:=by
 unfold rok at h ⊢;simp only[ne,fy]at h ⊢;refine⟨?_,rD wa wb ha hb hv (h.imp And.right And.right)⟩;rcases h with h|h
 .rcases h.1 with g|g
  .exact .inl (by unfold cP;rw[Pf g];rfl)
  .exact .inr g
 .rcases h.1 with g|g
  .exact .inl (by unfold cP;rw[Pg g];rfl)
  .exact .inr g
def fd{a b:Ty}(ha:tset a=ZB)(hb:tset b=ZB):tset (cP w a b)=ZB:=by
 unfold tset at ha hb;rw[ne]at ha hb;have h0:(a.k==0)=ZC:=by simpa using ha.2
 have h1:(b.k==0)=ZC:=by simpa using hb.2
 refine eh ?_ (tv ha.1 hb.1);unfold cP;cases h2:a.k==b.k with
 |false=>rw[aoR h0 h1 h2];rfl
 |true=>
   cases h3:a.k==1 with
   |true=>rw[Pe h0 h1 h2 h3];exact h0
   |false=>rw[FW h0 h1 h2 h3];exact h0
structure Sta.wfs(a:Sta):Prop where
 r0:a.r0.s.wf
 r1:a.r1.s.wf
 r2:a.r2.s.wf
 r3:a.r3.s.wf
 r4:a.r4.s.wf
 r5:a.r5.s.wf
 r6:a.r6.s.wf
 r7:a.r7.s.wf
 r8:a.r8.s.wf
 r9:a.r9.s.wf
 r10:a.r10.s.wf
 s0:a.s0.s.wf
 s1:a.s1.s.wf
 s2:a.s2.s.wf
 s3:a.s3.s.wf
 s4:a.s4.s.wf
 s5:a.s5.s.wf
 s6:a.s6.s.wf
 s7:a.s7.s.wf
def ae6(h:DX lo hi size=ZB):size=8/\lo=hi/\Ac .rem .i64 lo 8=0:=by unfold DX at h;simp only[ne,cQ]at h;exact h
def akf{s:Sta}{x:Snap}(h:Ar s x=ZB)(h0:0<=n)(h1:n<=7):aU (nu s n) (be x n.toNat)=ZB:=by
 unfold Ar at h;simp only[ne]at h;obtain⟨_,_,_,_,_,_,_,_,_,_,_,_,k0,k1,k2,k3,k4,k5,k6,k7⟩:=h;have:n=0\/n=1\/n=2\/n=3\/n=4\/n=5\/n=6\/n=7:=Fn;rcases this with rfl|rfl|rfl|rfl|rfl|rfl|rfl|rfl
 .exact k0
 .exact k1
 .exact k2
 .exact k3
 .exact k4
 .exact k5
 .exact k6
 .exact k7
def acp{n:Nat}(h:n<18446744073709551616):(ZL 64 (n:Int)).toNat=n:=by rw[BitVec.toNat_ofInt];omega
def ajU{n i:Nat}(h1:n<2 ^ k)(hi:k<=i)(h:n<18446744073709551616):tb (n:Int) i=ZC:=by show(ZL 64 (n:Int)).toNat.testBit i=ZC;rw[acp h];exact Nat.testBit_lt_two_pow (nr h1 (YU ST hi))
def aoX{i:Nat}(h:2 ^ k-1<18446744073709551616)(hi:i<k):tb ((2 ^ k-1:Nat):Int) i=ZB:=by show(ZL 64 _).toNat.testBit i=ZB;rw[acp h,Nat.testBit_two_pow_sub_one,dm hi]
def akR{n:Nat}(h1:n<2 ^ k)(h:2 ^ k-1<18446744073709551616):AX ⟨0,((2 ^ k-1:Nat):Int)⟩ (n:Int)=ZB:=by
 rw[bk (show Kn.wf _ from⟨⟨Int.le_refl _,(by decide:(0:Int)<=18446744073709551615)⟩,⟨Int.natCast_nonneg _,by show((2 ^ k-1:Nat):Int)<=_;omega⟩⟩)];intro i hi;show(tb 0 i&&tb ((2 ^ k-1:Nat):Int) i)=ZC/\(tb (n:Int) i &&!tb ((2 ^ k-1:Nat):Int) i)=tb 0 i;rw[ij];refine⟨rfl,?_⟩;rcases bC i k with As|DC
 .rw[aoX h As];simp
 .rw[ajU h1 DC Fn];rfl
def oH{n:Nat}(hk:k<=64)(h1:n<2 ^ k)(h:2 ^ k-1<18446744073709551616):A3 (H9 ((2 ^ k-1:Nat):Int)) (n:Int)=ZB:=by
 have hb:AF (⟨0,((2 ^ k-1:Nat):Int),ball.sl,ball.sh⟩:Rg) (n:Int)=ZB:=by have q:=kU (n:Int) Fn Fn;unfold AF at q ⊢;simp only[ne,aE]at q ⊢;refine⟨?_,⟨by omega,by omega⟩,q.2.2⟩;unfold AT;simp only[ne,aE];exact⟨by omega,by decide⟩
 refine(gL ?_ Fn (fx (a:=sc ⟨0,((2 ^ k-1:Nat):Int),ball.sl,ball.sh⟩ ⟨0,((2 ^ k-1:Nat):Int)⟩) hb (akR h1 h))).2;refine jo ?_ (show Kn.wf _ from⟨⟨Int.le_refl _,(by decide:(0:Int)<=18446744073709551615)⟩,⟨Int.natCast_nonneg _,by show((2 ^ k-1:Nat):Int)<=_;omega⟩⟩);exact⟨⟨Int.le_refl _,(by decide:(0:Int)<=18446744073709551615)⟩,⟨Int.natCast_nonneg _,by show((2 ^ k-1:Nat):Int)<=_;omega⟩,(by decide : -9223372036854775808<=ball.sl/\ball.sl<=9223372036854775807),(by decide : -9223372036854775808<=ball.sh/\ball.sh<=9223372036854775807)⟩
def tj(hs:size=1\/size=2\/size=4\/size=8)(h0:0<=v)(h1:v<256 ^ size.toNat):A3 (Db size) v=ZB:=by
 obtain⟨n,rfl⟩:=cj h0;rcases hs with rfl|rfl|rfl|rfl
 .exact oH (k:=8) ST (by have:(n:Int)<256:=h1;omega) ST
 .exact oH (k:=16) ST (by have:(n:Int)<65536:=h1;omega) ST
 .exact oH (k:=32) ST (by have:(n:Int)<4294967296:=h1;omega) ST
 .exact oH (k:=64) ST (by have:(n:Int)<18446744073709551616:=h1;omega) ST
def dt(x:Snap)(i:Int):Int:=if i=0 then x.f0 else if i=1 then x.f1 else if i=2 then x.f2 else if i=3 then x.f3 else if i=4 then x.f4 else if i=5 then x.f5 else if i=6 then x.f6 else if i=7 then x.f7 else if i=8 then x.f8 else if i=9 then x.f9 else if i=10 then x.f10 else if i=11 then x.f11 else if i=12 then x.f12 else if i=13 then x.f13 else if i=14 then x.f14 else if i=15 then x.f15 else if i=16 then x.f16 else if i=17 then x.f17 else if i=18 then x.f18 else if i=19 then x.f19 else if i=20 then x.f20 else if i=21 then x.f21 else if i=22 then x.f22 else if i=23 then x.f23 else if i=24 then x.f24 else if i=25 then x.f25 else if i=26 then x.f26 else if i=27 then x.f27 else if i=28 then x.f28 else if i=29 then x.f29 else if i=30 then x.f30 else if i=31 then x.f31 else if i=32 then x.f32 else if i=33 then x.f33 else if i=34 then x.f34 else if i=35 then x.f35 else if i=36 then x.f36 else if i=37 then x.f37 else if i=38 then x.f38 else if i=39 then x.f39 else if i=40 then x.f40 else if i=41 then x.f41 else if i=42 then x.f42 else if i=43 then x.f43 else if i=44 then x.f44 else if i=45 then x.f45 else if i=46 then x.f46 else if i=47 then x.f47 else if i=48 then x.f48 else if i=49 then x.f49 else if i=50 then x.f50 else if i=51 then x.f51 else if i=52 then x.f52 else if i=53 then x.f53 else if i=54 then x.f54 else if i=55 then x.f55 else if i=56 then x.f56 else if i=57 then x.f57 else if i=58 then x.f58 else if i=59 then x.f59 else if i=60 then x.f60 else if i=61 then x.f61 else if i=62 then x.f62 else if i=63 then x.f63 else 0
def Bq(x:Snap):Int->Nat->Int
 |_,0=>0
 |i,n+1=>dt x i+256*Bq x (i+1) n
def xQ{x:Snap}(h:∀i,0<=dt x i/\dt x i<=255):∀(n:Nat) (i:Int),0<=Bq x i n/\Bq x i n<256 ^ n
 |0,i=>by simp[Bq]
 |n+1,i=>by
   have q:=xQ h n (i+1);have b:=h i;have e:(256:Int) ^ (n+1)=256*256 ^ n:=by rw[Int.pow_succ];omega
   simp only[Bq];rw[e];omega
def pq(x:Snap):Bq x 0 8=be x 0:=by simp[Bq,dt,be,w8]
def pp(x:Snap):Bq x 8 8=be x 1:=by simp[Bq,dt,be,w8]
def po(x:Snap):Bq x 16 8=be x 2:=by simp[Bq,dt,be,w8]
def pn(x:Snap):Bq x 24 8=be x 3:=by simp[Bq,dt,be,w8]
def pm(x:Snap):Bq x 32 8=be x 4:=by simp[Bq,dt,be,w8]
def pk(x:Snap):Bq x 40 8=be x 5:=by simp[Bq,dt,be,w8]
def pj(x:Snap):Bq x 48 8=be x 6:=by simp[Bq,dt,be,w8]
def pi(x:Snap):Bq x 56 8=be x 7:=by simp[Bq,dt,be,w8]
def afr{s:Sta}{x:Snap}(hc:BL s lo hi size=ZB)(hx:Ar s x=ZB)(hb:∀i,0<=dt x i/\dt x i<=255)(h0:lo<=i)(h1:i<=hi):aU (oG s lo hi size) (Bq x i size.toNat)=ZB:=by
 obtain⟨_,b0,b1,b2,b3⟩:=nz hc;cases h:DX lo hi size with
 |false=>rw[(nA hc h).1];have q:=xQ hb size.toNat i;exact iM (tj b3 q.1 q.2)
 |true=>
   rw[(bQ hc h).1];obtain⟨rfl,rfl,hr⟩:=ae6 h;obtain rfl:i=lo:=Fn;obtain⟨e,e0,e1⟩:=yp hc;have AV:i.tmod 8=0:=hr;rw[Int.tmod_eq_emod_of_nonneg b0]at AV;have q:=akf hx e0 e1;rw[e];have:i=0\/i=8\/i=16\/i=24\/i=32\/i=40\/i=48\/i=56:=Fn;rcases this with rfl|rfl|rfl|rfl|rfl|rfl|rfl|rfl
   .exact(pq x)▸q
   .exact(pp x)▸q
   .exact(po x)▸q
   .exact(pn x)▸q
   .exact(pm x)▸q
   .exact(pk x)▸q
   .exact(pj x)▸q
   .exact(pi x)▸q
def ba(v i:Int):Int:=v / 256 ^ i.toNat % 256
def Dd(x:Snap)(a v n:Int):Snap:={x with f0:=if a<=0/\0<a+n then ba v (0-a)else x.f0,f1:=if a<=1/\1<a+n then ba v (1-a)else x.f1,f2:=if a<=2/\2<a+n then ba v (2-a)else x.f2,f3:=if a<=3/\3<a+n then ba v (3-a)else x.f3,f4:=if a<=4/\4<a+n then ba v (4-a)else x.f4,f5:=if a<=5/\5<a+n then ba v (5-a)else x.f5,f6:=if a<=6/\6<a+n then ba v (6-a)else x.f6,f7:=if a<=7/\7<a+n then ba v (7-a)else x.f7,f8:=if a<=8/\8<a+n then ba v (8-a)else x.f8,f9:=if a<=9/\9<a+n then ba v (9-a)else x.f9,f10:=if a<=10/\10<a+n then ba v (10-a)else x.f10,f11:=if a<=11/\11<a+n then ba v (11-a)else x.f11,f12:=if a<=12/\12<a+n then ba v (12-a)else x.f12,f13:=if a<=13/\13<a+n then ba v (13-a)else x.f13,f14:=if a<=14/\14<a+n then ba v (14-a)else x.f14,f15:=if a<=15/\15<a+n then ba v (15-a)else x.f15,f16:=if a<=16/\16<a+n then ba v (16-a)else x.f16,f17:=if a<=17/\17<a+n then ba v (17-a)else x.f17,f18:=if a<=18/\18<a+n then ba v (18-a)else x.f18,f19:=if a<=19/\19<a+n then ba v (19-a)else x.f19,f20:=if a<=20/\20<a+n then ba v (20-a)else x.f20,f21:=if a<=21/\21<a+n then ba v (21-a)else x.f21,f22:=if a<=22/\22<a+n then ba v (22-a)else x.f22,f23:=if a<=23/\23<a+n then ba v (23-a)else x.f23,f24:=if a<=24/\24<a+n then ba v (24-a)else x.f24,f25:=if a<=25/\25<a+n then ba v (25-a)else x.f25,f26:=if a<=26/\26<a+n then ba v (26-a)else x.f26,f27:=if a<=27/\27<a+n then ba v (27-a)else x.f27,f28:=if a<=28/\28<a+n then ba v (28-a)else x.f28,f29:=if a<=29/\29<a+n then ba v (29-a)else x.f29,f30:=if a<=30/\30<a+n then ba v (30-a)else x.f30,f31:=if a<=31/\31<a+n then ba v (31-a)else x.f31,f32:=if a<=32/\32<a+n then ba v (32-a)else x.f32,f33:=if a<=33/\33<a+n then ba v (33-a)else x.f33,f34:=if a<=34/\34<a+n then ba v (34-a)else x.f34,f35:=if a<=35/\35<a+n then ba v (35-a)else x.f35,f36:=if a<=36/\36<a+n then ba v (36-a)else x.f36,f37:=if a<=37/\37<a+n then ba v (37-a)else x.f37,f38:=if a<=38/\38<a+n then ba v (38-a)else x.f38,f39:=if a<=39/\39<a+n then ba v (39-a)else x.f39,f40:=if a<=40/\40<a+n then ba v (40-a)else x.f40,f41:=if a<=41/\41<a+n then ba v (41-a)else x.f41,f42:=if a<=42/\42<a+n then ba v (42-a)else x.f42,f43:=if a<=43/\43<a+n then ba v (43-a)else x.f43,f44:=if a<=44/\44<a+n then ba v (44-a)else x.f44,f45:=if a<=45/\45<a+n then ba v (45-a)else x.f45,f46:=if a<=46/\46<a+n then ba v (46-a)else x.f46,f47:=if a<=47/\47<a+n then ba v (47-a)else x.f47,f48:=if a<=48/\48<a+n then ba v (48-a)else x.f48,f49:=if a<=49/\49<a+n then ba v (49-a)else x.f49,f50:=if a<=50/\50<a+n then ba v (50-a)else x.f50,f51:=if a<=51/\51<a+n then ba v (51-a)else x.f51,f52:=if a<=52/\52<a+n then ba v (52-a)else x.f52,f53:=if a<=53/\53<a+n then ba v (53-a)else x.f53,f54:=if a<=54/\54<a+n then ba v (54-a)else x.f54,f55:=if a<=55/\55<a+n then ba v (55-a)else x.f55,f56:=if a<=56/\56<a+n then ba v (56-a)else x.f56,f57:=if a<=57/\57<a+n then ba v (57-a)else x.f57,f58:=if a<=58/\58<a+n then ba v (58-a)else x.f58,f59:=if a<=59/\59<a+n then ba v (59-a)else x.f59,f60:=if a<=60/\60<a+n then ba v (60-a)else x.f60,f61:=if a<=61/\61<a+n then ba v (61-a)else x.f61,f62:=if a<=62/\62<a+n then ba v (62-a)else x.f62,f63:=if a<=63/\63<a+n then ba v (63-a)else x.f63}
def lZ(x:Snap)(a v n:Int)(i:Int)(h0:0<=i)(h1:i<=63):dt (Dd x a v n) i=if a<=i/\i<a+n then ba v (i-a)else dt x i:=by have:i=0\/i=1\/i=2\/i=3\/i=4\/i=5\/i=6\/i=7\/i=8\/i=9\/i=10\/i=11\/i=12\/i=13\/i=14\/i=15\/i=16\/i=17\/i=18\/i=19\/i=20\/i=21\/i=22\/i=23\/i=24\/i=25\/i=26\/i=27\/i=28\/i=29\/i=30\/i=31\/i=32\/i=33\/i=34\/i=35\/i=36\/i=37\/i=38\/i=39\/i=40\/i=41\/i=42\/i=43\/i=44\/i=45\/i=46\/i=47\/i=48\/i=49\/i=50\/i=51\/i=52\/i=53\/i=54\/i=55\/i=56\/i=57\/i=58\/i=59\/i=60\/i=61\/i=62\/i=63:=Fn;rcases this with rfl|rfl|rfl|rfl|rfl|rfl|rfl|rfl|rfl|rfl|rfl|rfl|rfl|rfl|rfl|rfl|rfl|rfl|rfl|rfl|rfl|rfl|rfl|rfl|rfl|rfl|rfl|rfl|rfl|rfl|rfl|rfl|rfl|rfl|rfl|rfl|rfl|rfl|rfl|rfl|rfl|rfl|rfl|rfl|rfl|rfl|rfl|rfl|rfl|rfl|rfl|rfl|rfl|rfl|rfl|rfl|rfl|rfl|rfl|rfl|rfl|rfl|rfl|rfl<;>rfl
def ake{s:Sta}{p:Int->Bool}{t:Ty}(h:Az s=ZB)(ht:tset t=ZB):Az (BC s p t)=ZB:=by
 have P:∀{c:Bool} {u:Ty},tset u=ZB->tset (if c=ZB then t else u)=ZB:=fun {c u} hu=>by cases c;exact hu;exact ht
 unfold Az at h ⊢;simp only[ne]at h ⊢;obtain⟨r0,r1,r2,r3,r4,r5,r6,r7,r8,r9,r10,h0,h1,h2,h3,h4,h5,h6,h7⟩:=h;exact⟨r0,r1,r2,r3,r4,r5,r6,r7,r8,r9,r10,P h0,P h1,P h2,P h3,P h4,P h5,P h6,P h7⟩
def gR{c:Bool}{t u:Ty}{w w':Int}(h1:c=ZB->aU t w'=ZB)(h2:c=ZC->w'=w)(hu:aU u w=ZB):aU (if c=ZB then t else u) w'=ZB:=by
 cases c with
 |true=>exact h1 rfl
 |false=>rw[h2 rfl];exact hu
def kD{x y:Snap}:∀(n:Nat) (i:Int),(∀j:Int,i<=j->j<i+n->dt x j=dt y j)->Bq x i n=Bq y i n
 |0,_,_=>rfl
 |n+1,i,h=>by simp only[Bq];rw[h i Fn Fn,kD n (i+1) (fun j h0 h1=>h j Fn Fn)]
def Sz(v:Int){x:Snap}{a:Int}:∀(n m:Nat),(∀j:Nat,m<=j->j<m+n->dt x (a+j)=ba v j)->Bq x (a+m) n=v / 256 ^ m % 256 ^ n
 |0,m,_=>by simp[Bq,Int.emod_one]
 |n+1,m,h=>by
   simp only[Bq];have e:(a+(m:Int))+1=a+((m+1:Nat):Int):=Fn;rw[h m Fn Fn,e,Sz v n (m+1) (fun j h0 h1=>h j Fn Fn)];have e1:v / 256 ^ (m+1)=v / 256 ^ m / 256:=by rw[Int.pow_succ,Int.ediv_ediv_of_nonneg (by exact Int.le_of_lt (Int.pow_pos ST))]
   have e2:(256:Int) ^ (n+1)=256*256 ^ n:=by rw[Int.pow_succ];omega
   show v / 256 ^ ((m:Int).toNat) % 256+_=_;rw[cY,e1,e2];generalize v / 256 ^ m=q;generalize (256:Int) ^ n=P;have h3:q / (256*P)=q / 256 / P:=(Int.ediv_ediv_of_nonneg ST).symm;rw[Int.emod_def q (256*P),h3,Int.emod_def (q / 256) P,Int.emod_def q 256,Int.mul_sub,Int.mul_assoc];generalize P*(q / 256 / P)=Z;omega
def zQ{x:Snap}(k:Nat)(hk:k<=7)(h:a+n<=8*k\/8*k+8<=a):be (Dd x a v n) k=be x k:=by
 have e:∀y:Snap,be y k=Bq y (8*k) 8:=by
  intro y;have:k=0\/k=1\/k=2\/k=3\/k=4\/k=5\/k=6\/k=7:=Fn;rcases this with rfl|rfl|rfl|rfl|rfl|rfl|rfl|rfl
  .exact(pq y).symm
  .exact(pp y).symm
  .exact(po y).symm
  .exact(pn y).symm
  .exact(pm y).symm
  .exact(pk y).symm
  .exact(pj y).symm
  .exact(pi y).symm
 rw[e,e];refine kD 8 _ fun j h0 h1=> ?_;rw[lZ _ _ _ _ _ Fn Fn,aa Fn]
def aov{x:Snap}(k:Nat)(hk:k<=7)(h0:0<=v)(h1:v<=18446744073709551615):be (Dd x (8*k) v 8) k=v:=by
 have e:∀y:Snap,be y k=Bq y (8*k+(0:Nat)) 8:=by
  intro y;have:k=0\/k=1\/k=2\/k=3\/k=4\/k=5\/k=6\/k=7:=Fn;rcases this with rfl|rfl|rfl|rfl|rfl|rfl|rfl|rfl
  .exact(pq y).symm
  .exact(pp y).symm
  .exact(po y).symm
  .exact(pn y).symm
  .exact(pm y).symm
  .exact(pk y).symm
  .exact(pj y).symm
  .exact(pi y).symm
 rw[e,Sz v 8 0 (fun j g0 g1=>by rw[lZ _ _ _ _ _ Fn Fn,ae Fn];congr 1;omega)];show v / 1 % 18446744073709551616=v;omega
def aaC{s:Sta}{x:Snap}{p:Int->Bool}{t:Ty}(hx:Ar s x=ZB)(ht:tset t=ZB)(hk:∀k:Nat,k<=7->(p k=ZB->aU t (be (Dd x a v n) k)=ZB)/\(p k=ZC->be (Dd x a v n) k=be x k)):Ar (BC s p t) (Dd x a v n)=ZB:=by
 unfold Ar at hx ⊢;simp only[ne]at hx ⊢;obtain⟨hm,r0,r1,r2,r3,r4,r5,r6,r7,r8,r9,r10,k0,k1,k2,k3,k4,k5,k6,k7⟩:=hx;exact⟨ake hm ht,r0,r1,r2,r3,r4,r5,r6,r7,r8,r9,r10,
  gR (hk 0 ST).1 (hk 0 ST).2 k0,gR (hk 1 ST).1 (hk 1 ST).2 k1,
  gR (hk 2 ST).1 (hk 2 ST).2 k2,gR (hk 3 ST).1 (hk 3 ST).2 k3,
  gR (hk 4 ST).1 (hk 4 ST).2 k4,gR (hk 5 ST).1 (hk 5 ST).2 k5,
  gR (hk 6 ST).1 (hk 6 ST).2 k6,gR (hk 7 ST).1 (hk 7 ST).2 k7⟩
def aju{x:Snap}(hb:∀i,0<=dt x i/\dt x i<=255)(i:Int)(h0:0<=i)(h1:i<=63):0<=dt (Dd x a v n) i/\dt (Dd x a v n) i<=255:=by
 rw[lZ _ _ _ _ _ h0 h1];split
 .unfold ba;omega
 .exact hb i
def adV{x:Snap}(hb:∀i,0<=dt x i/\dt x i<=255)(k:Nat)(hk:k<=7):0<=be (Dd x a v n) k/\be (Dd x a v n) k<=18446744073709551615:=by
 have B:∀i:Nat,i<=63->0<=dt (Dd x a v n) i/\dt (Dd x a v n) i<=255:=fun i hi=>aju hb i Fn Fn;have e:be (Dd x a v n) k=Bq (Dd x a v n) (8*k) 8:=by
  have:k=0\/k=1\/k=2\/k=3\/k=4\/k=5\/k=6\/k=7:=Fn;rcases this with rfl|rfl|rfl|rfl|rfl|rfl|rfl|rfl
  .exact(pq _).symm
  .exact(pp _).symm
  .exact(po _).symm
  .exact(pn _).symm
  .exact(pm _).symm
  .exact(pk _).symm
  .exact(pj _).symm
  .exact(pi _).symm
 rw[e];have C:∀(m:Nat) (j:Nat),j+m<=64->0<=Bq (Dd x a v n) j m/\Bq (Dd x a v n) j m<256 ^ m:=by
  intro m
  induction m with
  |zero=>intro j _;simp[Bq]
  |succ m ih=>
    intro j hj;have q:=ih (j+1) Fn;have b:=B j Fn;have e2:(256:Int) ^ (m+1)=256*256 ^ m:=by rw[Int.pow_succ];omega
    simp only[Bq];rw[e2];rw[show((j:Int)+1)=((j+1:Nat):Int) by omega];omega
 have q:=C 8 (8*k) Fn;rw[show((8*k:Nat):Int)=8*(k:Int) by omega]at q;exact⟨q.1,by have:=q.2;simp at this;omega⟩
def acH{s:Sta}{x:Snap}{t:Ty}(hc:BL s lo hi size=ZB)(ht:tset t=ZB)(hx:Ar s x=ZB)(hb:∀i,0<=dt x i/\dt x i<=255)(h0:lo<=a)(h1:a<=hi)(hv:aU t v=ZB)(v0:0<=v)(v1:v<=18446744073709551615):Ar (jd s lo hi size t) (Dd x a v size)=ZB:=by
 obtain⟨_,b0,b1,b2,b3⟩:=nz hc;cases h:DX lo hi size with
 |false=>
   rw[(lG hc ht h).1];refine aaC hx vn fun k hk=>⟨fun _=>iA (adV hb k hk).1 (adV hb k hk).2,fun hp=> ?_⟩
   simp only[Bool.and_eq_false_iff,mi]at hp;exact zQ k hk Fn
 |true=>
   rw[(bj hc ht h).1];obtain⟨rfl,rfl,hr⟩:=ae6 h;obtain rfl:a=lo:=Fn;obtain⟨e,e0,e1⟩:=yp hc;have AV:a.tmod 8=0:=hr;rw[Int.tmod_eq_emod_of_nonneg b0]at AV;refine aaC hx ht fun k hk=>⟨fun hp=> ?_,fun hp=> ?_⟩
   .rw[cQ,e]at hp;obtain rfl:a=8*(k:Int):=Fn;rw[aov k hk v0 v1];exact hv
   .rw[jJ,e]at hp;exact zQ k hk Fn
def frD(y:Snap):List Dt:=[.z y.f0,.z y.f1,.z y.f2,.z y.f3,.z y.f4,.z y.f5,.z y.f6,.z y.f7,.z y.f8,.z y.f9,.z y.f10,.z y.f11,.z y.f12,.z y.f13,.z y.f14,.z y.f15,.z y.f16,.z y.f17,.z y.f18,.z y.f19,.z y.f20,.z y.f21,.z y.f22,.z y.f23,.z y.f24,.z y.f25,.z y.f26,.z y.f27,.z y.f28,.z y.f29,.z y.f30,.z y.f31,.z y.f32,.z y.f33,.z y.f34,.z y.f35,.z y.f36,.z y.f37,.z y.f38,.z y.f39,.z y.f40,.z y.f41,.z y.f42,.z y.f43,.z y.f44,.z y.f45,.z y.f46,.z y.f47,.z y.f48,.z y.f49,.z y.f50,.z y.f51,.z y.f52,.z y.f53,.z y.f54,.z y.f55,.z y.f56,.z y.f57,.z y.f58,.z y.f59,.z y.f60,.z y.f61,.z y.f62,.z y.f63]
def aq1(y:Snap):∀j:Nat,j<64->(frD y)[j]? =ZA (.z (dt y j)):=by intro j hj;have:j=0\/j=1\/j=2\/j=3\/j=4\/j=5\/j=6\/j=7\/j=8\/j=9\/j=10\/j=11\/j=12\/j=13\/j=14\/j=15\/j=16\/j=17\/j=18\/j=19\/j=20\/j=21\/j=22\/j=23\/j=24\/j=25\/j=26\/j=27\/j=28\/j=29\/j=30\/j=31\/j=32\/j=33\/j=34\/j=35\/j=36\/j=37\/j=38\/j=39\/j=40\/j=41\/j=42\/j=43\/j=44\/j=45\/j=46\/j=47\/j=48\/j=49\/j=50\/j=51\/j=52\/j=53\/j=54\/j=55\/j=56\/j=57\/j=58\/j=59\/j=60\/j=61\/j=62\/j=63:=Fn;rcases this with rfl|rfl|rfl|rfl|rfl|rfl|rfl|rfl|rfl|rfl|rfl|rfl|rfl|rfl|rfl|rfl|rfl|rfl|rfl|rfl|rfl|rfl|rfl|rfl|rfl|rfl|rfl|rfl|rfl|rfl|rfl|rfl|rfl|rfl|rfl|rfl|rfl|rfl|rfl|rfl|rfl|rfl|rfl|rfl|rfl|rfl|rfl|rfl|rfl|rfl|rfl|rfl|rfl|rfl|rfl|rfl|rfl|rfl|rfl|rfl|rfl|rfl|rfl|rfl<;>rfl
def UP(y:Snap):List Int:=[y.f0,y.f1,y.f2,y.f3,y.f4,y.f5,y.f6,y.f7,y.f8,y.f9,y.f10,y.f11,y.f12,y.f13,y.f14,y.f15,y.f16,y.f17,y.f18,y.f19,y.f20,y.f21,y.f22,y.f23,y.f24,y.f25,y.f26,y.f27,y.f28,y.f29,y.f30,y.f31,y.f32,y.f33,y.f34,y.f35,y.f36,y.f37,y.f38,y.f39,y.f40,y.f41,y.f42,y.f43,y.f44,y.f45,y.f46,y.f47,y.f48,y.f49,y.f50,y.f51,y.f52,y.f53,y.f54,y.f55,y.f56,y.f57,y.f58,y.f59,y.f60,y.f61,y.f62,y.f63]
def aq0(y:Snap)(h0:0<=i)(h1:i<=63):(UP y).getD i.toNat 0=dt y i:=by
 have e:frD y=(UP y).map Dt.z:=rfl;have h:=aq1 y i.toNat Fn;rw[e,js]at h;cases hx:(UP y)[i.toNat]? with
 |none=>rw[hx]at h;cases h
 |some z=>rw[hx]at h;simp only[Option.map_some,bo,Dt.z.injEq]at h;rw[bZ,hx];simp only[Option.getD_some];rw[h];congr 1;omega
def zR{a b:Sc}(wA:a.wf)(wB:b.wf):(eY op a b).wf:=by
 unfold eY Ll;have w1:=xS fw;split
 .exact w1
 .split
  .split
   .split
    .exact zU wA.r (by rw[al7];exact xR (iK _ _).1 (iK _ _).2)
    .exact w1
   .exact w1
  .split
   .exact zU wA.r wB.r
   .exact w1
def aoE{l:Int}{a b:Sc}(ha:a.wf)(hb:b.wf){p:Int}(hp:0<=p/\p<=18446744073709551615)(hq:0<=q/\q<=18446744073709551615)(h1:A3 a p=ZB)(h2:A3 b q=ZB)(hk:Bv op l=ZB):A3 (Hy op l a b) (BE op l p q)=ZB:=by
 obtain⟨h0,Jb,hl⟩:=Xc hk;have hz:=eG op l p q hp.1 hp.2 hq.1 hq.2;unfold Hy;rw[ae ⟨hk,eR h1,eR h2⟩];rcases hl with rfl|rfl
 .rw[aa ST];have g1:=aab ha hp h1;have g2:=aab hb hq h2;have wA:=nm ha;have wB:=nm hb;have bp:=dk p 32 hp.1 hp.2;have bq:=dk q 32 hq.1 hq.2;have cp:Ap p 32<=4294967295:=by rw[dR];omega
  have cq:Ap q 32<=4294967295:=by rw[dR];omega
  have hh:=alr wA wB h0 Jb bp.1 cp bq.1 cq g1 g2;have hK:=ahL h0 Jb (w:=32) (.inl rfl) wA.k wB.k (fT g1) (fT g2) bp bq;rw[zO]at hh hK;have hR:=zR (op:=op) wA wB;have hn:=gL (a:=Qh op 32 a b) (jo hR (zS wA.k wB.k op 32)) hz (fx (a:=sc _ _) hh hK);rw[ae hn.1];exact hn.2
 .rw[ae rfl];exact(gL (jo (zU ha.r hb.r) (zS ha.k hb.k op 64)) hz (fx (a:=sc _ _) (aie ha.r hb.r hp.1 hp.2 hq.1 hq.2 (fB h1) (fB h2) hz.1 hz.2) (ahL h0 Jb (.inr rfl) ha.k hb.k (fT h1) (fT h2) hp hq))).2
def sW(hv:0<=v/\v<=18446744073709551615):(Cb v).wf:=jo (xR hv.1 hv.2) (sZ hv)
def th(hv:0<=v/\v<=18446744073709551615):A3 (Cb v) v=ZB:=fx (a:=Cb v) acr (uA hv)
def uU(v:Int):Ap v 64=v:=by unfold Ap;simp
def xO(w p q:Int):BE 11 w p q=Ap (Ap q w) w:=by unfold BE BT;simp
def aos(w p q r:Int):BE 8 w p q=BE 8 w p r:=by unfold BE BT;simp
def arD(op p q:Int):0<=BE op 32 p q/\BE op 32 p q<4294967296:=by unfold BE;rw[dR];omega
def kG{t:Ty}(h:aU t v=ZB)(hk:t.k=1):A3 t.s v=ZB:=by rw[nq (mh h) hk]at h;exact h
def oJ{t:Ty}:Av t=ZB↔t.k=2\/t.k=3:=by unfold Av;simp
def tu{t:Ty}(h:Bh t=ZB)(hp:Av t=ZC)(h0:t.k≠0):t.k=1:=by
 have h1:¬(t.k=2\/t.k=3):=fun e=>by rw[oJ.2 e]at hp;cases hp
 have:=fX h;omega
def tx(t:Ty)(v:Int):D9 t v=(v-bV t+9223372036854775808) % 18446744073709551616-9223372036854775808:=by unfold D9;rw[aT,aW];omega
def ye{t:Ty}(hk:t.k=2\/t.k=3):aU t v=ZB↔Bh t=ZB/\t.lo<=D9 t v/\D9 t v<=t.hi:=by unfold aU;rw[aa Fn,aa Fn];simp only[ne,aE]
def arN(h:A3 s q=ZB):s.sl<=B0 q/\B0 q<=s.sh:=by have:=(aQ _ _).1 (fB h);exact⟨this.2.2.1,this.2.2.2⟩
def rU{t:Ty}{p:Int}(b:Bool)(ht:aU t p=ZB)(hk:t.k=2\/t.k=3)(hs:A3 s q=ZB)(hp:0<=p/\p<=18446744073709551615)(hq:0<=q/\q<=18446744073709551615):
  aU (oe t s b) ((if b=ZB then p-q else p+q) % 18446744073709551616)=ZB:=by
 unfold oe;split
 .rename_i h;simp only[BK,ne,aE]at h;obtain⟨⟨s1,s2⟩,⟨l1,l2⟩,l3,l4⟩:=h;obtain⟨ho,h1,h2⟩:=(ye hk).1 ht;obtain⟨t1,t2,t3,t4⟩:=yb ho hk;obtain⟨v1,v2⟩:=arN hs;have e64:B0 q=if q<9223372036854775808 then q else q-18446744073709551616:=by unfold B0;rw[Pk];split<;>omega
  have hb:bV (ar t s b)=bV t:=rfl;have DU:bV t=2097152\/bV t=3145728:=by unfold bV;split<;>simp
  have B2:(ar t s b).k=2\/(ar t s b).k=3:=hk;rw[ye B2,tx,hb];rw[tx]at h1 h2;have UO:(ar t s b).lo=t.lo+(if b=ZB then -s.sh else s.sl):=by show IntKind.i64.wrap (t.lo+B7 s b)=_;unfold B7;rw[aT];cases b<;>simp only[bm,eA,Bool.false_eq_true]<;>(try rw[aT])<;>omega
  have UN:(ar t s b).hi=t.hi+(if b=ZB then -s.sl else s.sh):=by show IntKind.i64.wrap (t.hi+B6 s b)=_;unfold B6;rw[aT];cases b<;>simp only[bm,eA,Bool.false_eq_true]<;>(try rw[aT])<;>omega
  rw[UO]at l1 l2 ⊢;rw[UN]at l3 l4 ⊢;refine⟨?_,?_⟩
  .unfold Bh;rw[aa Fn,aa Fn,ae B2];simp only[ne,aE];rw[UO,UN];refine⟨t1,?_,l1,l4⟩;cases b<;>simp only[bm,eA,Bool.false_eq_true]<;>omega
  .split at e64<;>cases b<;>simp only[bm,eA,Bool.false_eq_true]at * <;>omega
 .exact iA YM YM
def nX{w:Int}{a b:Ty}{p:Int}(ha:aU a p=ZB)(hb:aU b q=ZB)(wa:a.s.wf)(wb:b.s.wf)(hk:Bv op w=ZB)(a0:a.k≠0)(b0:b.k≠0)(hp:0<=p/\p<=18446744073709551615)(hq:0<=q/\q<=18446744073709551615):aU (bi op w a b) (BE op w p q)=ZB:=by
 obtain⟨h0,Jb,hl⟩:=Xc hk;have hz:=eG op w p q hp.1 hp.2 hq.1 hq.2;have ta:=mh ha;have tb:=mh hb;unfold bi;split
 next h=>simp only[ne,ZO]at h;exact iM (aoE wa wb hp hq (kG ha (tu ta h.1 a0)) (kG hb (tu tb h.2 b0)) hk)
 .rename_i h;split
  .rename_i h2;obtain⟨rfl,h3,h4⟩:=h2;have UZ:Av a=ZB:=by cases e:Av a with
    |true=>rfl
    |false=>rw[e,h3]at h;exact(h rfl).elim
   have q1:=rU (op==1) ha (oJ.1 UZ) (kG hb (tu tb h3 b0)) hp hq;rcases h4 with rfl|rfl
   .simpa[BE,BT,uU]using q1
   .simpa[BE,BT,uU]using q1
  .split
   .rename_i h2;obtain⟨rfl,h3,rfl⟩:=h2;have Rz:Av b=ZB:=by cases e:Av b with
     |true=>rfl
     |false=>rw[e,h3]at h;exact(h rfl).elim
    have q1:=rU ZC hb (oJ.1 Rz) (kG ha (tu ta h3 a0)) hq hp;simpa[BE,BT,uU,Int.add_comm]using q1
   .split
    .exact iA hz.1 hz.2
    next h5=>have hw:w=32:=Fn;subst hw;have z:=arD op p q;exact iM (tj (.inr (.inr (.inl rfl))) z.1 z.2)
def vr(hv:0<=v/\v<=18446744073709551615):aU (DQ (Cb v)) v=ZB:=iM (th hv)
def aed{x:Ins}{a b:Ty}{p:Int}(ha:aU a p=ZB)(hb:aU b q=ZB)(wa:a.s.wf)(wb:b.s.wf)(hk:Bv x.op x.w=ZB)(a0:x.op≠11->a.k≠0)(b0:x.op≠8->b.k≠0)(hp:0<=p/\p<=18446744073709551615)(hq:0<=q/\q<=18446744073709551615):aU (Dv x a b) (BE x.op x.w p q)=ZB:=by
 obtain⟨h0,Jb,hl⟩:=Xc hk;unfold Dv Im In;by_cases HH:x.op=11
 .rw[ae HH,aa (by omega:¬x.op=8)];split
  next h=>rw[h.1,h.2,xO,uU,uU];exact hb
  .have e:BE x.op x.w p q=BE x.op x.w q q:=by rw[HH,xO,xO]
   rw[e];exact nX hb hb wb wb hk (b0 Fn) (b0 Fn) hq hq
 .rw[aa (fun h=>HH h.1),aa HH];by_cases h8:x.op=8
  .rw[ae h8];have e:BE x.op x.w p q=BE x.op x.w p 0:=by rw[h8];exact aos _ _ _ _
   rw[e];exact nX (b:=DQ (Cb 0)) (q:=0) ha (vr (v:=0) Fn) wa (sW (v:=0) Fn) hk (a0 HH) (show(1:Int)≠0 by omega) hp Fn
  .rw[aa h8];exact nX ha hb wa wb hk (a0 HH) (b0 h8) hp hq
def bA:=aI Kn.eta (aI Pi.eta (aI Pu.eta (aI Rg.eta (aI Sc.eta (aI Sc.eta_r (aI Sc.eta_k (Sc.eta_2)))))))
def aM{q:Prop}(k:q2)(h:p->q=q2:=by intro e;(try simp only[e,bA,-eq_self]);rfl):p->q:=fun e=>(h e).symm▸k
def aoM:List (Nat×TI):=[(2,CC),
 (3,CZ),
 (38,fY),
 (39,fe),
 (46,ic),
 (48,jr),
 (50,PI)]
def cf:∀t i,(t,i)∈aoM->TIok ZF t i:=bl B1 B1 (by kernel_rfl)
def c_vcom:Cd:=⟨131,[.agg kRg],[.agg kKn],rd_Rg fun a _=>d_Kn (Gl a) [],T0⟩
def aoc:E:=(.f .sub .u64 (.f .shl .u64 (.p 1) (.f .sub .i64 (.p 64) (.w 4))) (.p 1))
def afP:Tr:=
(.call 0 [.int .i64] (.cons (.f .xor .u64 (.w 0) (.w 1)) .nil) 4
(.br (.lt (.p 0) (.w 4))
(.br (.lt (.f .sub .i64 (.p 64) (.w 4)) (.p 0))
.panic
(.u (.cons (.f .andNot .u64 (.w 0) aoc) (.cons aoc .nil))))
(.u (.cons (.f .andNot .u64 (.w 0) (.p 18446744073709551615)) (.cons (.p 18446744073709551615) .nil)))))
def as4:c_vcom.Ok ZF:=
 AU afP (v_Rg []) cf (Am R6 AI) func131<|dz fun a ha hp U g=>by
 simp only[AJ,AM,AA,ZD]at g;simp only[afP,aoc,c_lz,c_vcom,AJ,AM,Ai,ZH,ZD,-eq_self,bA,g];refine aM ?_;apply aI<;>intro c0;apply aI<;>intro c1
 ·(have hx:=rz a.ul a.uh;have hb:aB (bits .xor .u64 a.ul a.uh).toNat<=64:=gE Fn;have h1:ZG .i64 (64-(64-(aB (bits .xor .u64 a.ul a.uh).toNat:Int)))<0:=Ah c1;rw[aT]at h1;omega)
 .exact dZ (asU (Rg.wf_of ha))
 .exact dZ (asV (Rg.wf_of ha) c0)
def c_vnar:Cd:=⟨84,[.agg kSc],[.agg kSc,.one .bool],rd_Sc fun a _=>d_Sc (Cj a) [.z (AD (Dc a))],T0⟩
def afK:Tr:=
(.call 0 [.bool] (.vs 0 6 .nil) 6
(.br (.s 6)
(.call 2 (kRg) .nil 7
(.call 3 (kRg++[.bool]) (.vs 0 5 (.cons (.f .or .u64 (.w 4) (.w 5)) (.vs 9 2 .nil))) 11
(.br (.s 15)
(.call 5 (kKn) (.vs 11 4 .nil) 16
(.call 4 (kKn++[.bool]) (.vs 4 2 (.vs 16 2 .nil)) 18
(.br (.s 20)
(.call 3 (kRg++[.bool]) (.vs 11 4 (.cons (.w 18) (.cons (.f .or .u64 (.w 18) (.w 19)) (.vs 9 2 .nil)))) 21
(.br (.s 25)
(.call 5 (kKn) (.vs 21 4 .nil) 26
(.call 4 (kKn++[.bool]) (.vs 18 2 (.vs 26 2 .nil)) 28
(.br (.s 30)
(.u (.vs 21 4 (.vs 28 2 (.j (.tt ZB) .nil))))
(.call 1 (kSc) .nil 31
(.u (.vs 31 6 (.j (.tt ZC) .nil)))))))
(.call 1 (kSc) .nil 26
(.u (.vs 26 6 (.j (.tt ZC) .nil))))))
(.call 1 (kSc) .nil 21
(.u (.vs 21 6 (.j (.tt ZC) .nil)))))))
(.call 1 (kSc) .nil 16
(.u (.vs 16 6 (.j (.tt ZC) .nil)))))))
(.call 1 (kSc) .nil 7
(.u (.vs 7 6 (.j (.tt ZC) .nil))))))
def W8:c_vnar.Ok ZF:=
 AU afK (v_Sc []) cf (Am ox<|Am rZ<|Am nS<|Am amZ<|Am ahR<|Am as4 AI) func84<|dy fun a ha hp U g=>by
 simp only[AP,AJ,AM,AA,ZD]at g;simp only[afK,c_vmay,c_vall,c_all,c_meet,c_kmeet,c_vcom,c_vnar,AP,AJ,AM,Ai,ZH,ZD,-eq_self,bA,g];refine aM ?_;apply aI<;>intro c0;refine aM ?_;refine aM ?_;apply aI<;>intro c1;refine aM ?_;refine aM ?_;apply aI<;>intro c2;refine aM ?_;apply aI<;>intro c3;refine aM ?_;refine aM ?_;apply aI<;>intro c4
 ·(have q:=Sy (a:=a) c0 c1 c2 c3 c4;rw[q.1,q.2];try rfl)
 refine aM ?_
 ·(have q:=Lm (a:=a) (.inr (.inr (.inr (.inr (c4)))));rw[q.1,q.2];try rfl)
 refine aM ?_
 ·(have q:=Lm (a:=a) (.inr (.inr (.inr (.inl c3))));rw[q.1,q.2];try rfl)
 refine aM ?_
 ·(have q:=Lm (a:=a) (.inr (.inr (.inl c2)));rw[q.1,q.2];try rfl)
 refine aM ?_
 ·(have q:=Lm (a:=a) (.inr (.inl c1));rw[q.1,q.2];try rfl)
 refine aM ?_
 ·(have q:=Lm (a:=a) (.inl c0);rw[q.1,q.2];try rfl)
def c_vnard:Cd:=⟨109,[.agg kSc],[.agg kSc],rd_Sc fun a _=>d_Sc (Cj a) [],T0⟩
def aaL:Tr:=
(.call 0 (kSc++[.bool]) (.vs 0 6 .nil) 6
(.u (.vs 6 6 .nil)))
def nQ:c_vnard.Ok ZF:=
 AU aaL (v_Sc []) cf (Am W8 AI) func109<|dy fun a ha hp U g=>by
 simp only[AP,AA,ZD]at g;simp only[aaL,c_vnar,c_vnard,AP,Ai,ZH,ZD,-eq_self,bA,g];refine aM ?_
 .rfl
def c_vtwoj:Cd:=⟨85,[.agg kSc,.agg kSc,.one (.fn 86),.one (.fn 87)],[.agg kSc],rd_Sc fun a=>rd_Sc fun b _=>d_Sc (jF a b) [],T0⟩
def aaK:Tr:=
(.call 0 [.bool] (.vs 0 6 .nil) 12
(.br (.s 12)
(.call 0 [.bool] (.vs 6 6 .nil) 13
(.br (.s 13)
(.call 3 (kRg) (.vs 0 4 (.vs 6 4 .nil)) 14
(.call 4 (kKn) (.vs 4 2 (.vs 10 2 .nil)) 18
(.call 2 (kSc) (.vs 14 6 .nil) 20
(.u (.vs 20 6 .nil)))))
(.call 1 (kSc) .nil 14
(.u (.vs 14 6 .nil)))))
(.call 1 (kSc) .nil 13
(.u (.vs 13 6 .nil)))))
def aqo:c_vtwoj.Ok ZF:=
 AU aaK (v_Sc (v_Sc [])) cf (Am ox<|Am rZ<|Am nQ<|Am atq<|Am ahS AI) func85<|dy fun a ha=>dy fun b hb hp U g=>by
 simp only[AP,AJ,AM,AA,ZD]at g;simp only[aaK,c_vmay,c_vall,c_vnard,c_join,c_kjoin,c_vtwoj,AP,AJ,AM,Ai,ZH,ZD,-eq_self,bA,g];refine aM ?_;apply aI<;>intro c0;refine aM ?_;apply aI<;>intro c1;refine aM ?_;refine aM ?_;refine aM ?_
 ·(rw[show jF a b=Cj (sc (jx a.r b.r) (jv a.k b.k))from ae ⟨c0,c1⟩];try rfl)
 refine aM ?_
 ·(rw[show jF a b=vall from aa (fun q=>by simp_all)];try rfl)
 refine aM ?_
 ·(rw[show jF a b=vall from aa (fun q=>by simp_all)];try rfl)
def c_vjoin:Cd:=⟨47,[.agg kSc,.agg kSc],[.agg kSc],rd_Sc fun a=>rd_Sc fun b _=>d_Sc (jF a b) [],T0⟩
def aaM:Tr:=
(.call 0 (kSc) (.vs 0 12 .nil) 12
(.u (.vs 12 6 .nil)))
def aqp:c_vjoin.Ok ZF:=
 AU aaM (v_Sc (v_Sc [])) cf (Am aqo AI) func47<|dy fun a ha=>dy fun b hb hp U g=>by
 simp only[AP,AA,ZD]at g;simp only[aaM,c_vtwoj,c_vjoin,AP,Ai,ZH,ZD,-eq_self,bA,g];refine aM ?_
 .rfl
def c_vendu:Cd:=⟨90,[.one (.int .u64),.one (.int .u64),.one (.int .u64),.one .bool],[.one (.int .u64)],rdZ fun a=>rdZ fun b=>rdZ fun c=>rdB fun t _=>[.z (if(a==b)=ZC/\t=ZB then c else a)],T0⟩
def aaO:Tr:=
(.br (.eq (.w 0) (.w 1))
(.u (.cons (.w 0) .nil))
(.br (.s 3)
(.u (.cons (.w 2) .nil))
(.u (.cons (.w 0) .nil))))
def aqr:c_vendu.Ok ZF:=
 AU aaO [.int .u64,.int .u64,.int .u64,.bool] cf AI func90<|fun a ha b hb c hc t hp U g=>by
 simp only[AA,ZD]at g;simp only[aaO,c_vendu,Ai,ZH,ZD,-eq_self,Sc.eta_r,Sc.eta_k,Sc.eta_2,g];apply aI<;>intro c0
 ·(simp_all)
 apply aI<;>intro c1
 ·(simp_all)
 ·(simp_all)
def c_vendi:Cd:=⟨91,[.one (.int .i64),.one (.int .i64),.one (.int .i64),.one .bool],[.one (.int .i64)],rdZ fun a=>rdZ fun b=>rdZ fun c=>rdB fun t _=>[.z (if(a==b)=ZC/\t=ZB then c else a)],T0⟩
def aaP:Tr:=
(.br (.eq (.w 0) (.w 1))
(.u (.cons (.w 0) .nil))
(.br (.s 3)
(.u (.cons (.w 2) .nil))
(.u (.cons (.w 0) .nil))))
def aqs:c_vendi.Ok ZF:=
 AU aaP [.int .i64,.int .i64,.int .i64,.bool] cf AI func91<|fun a ha b hb c hc t hp U g=>by
 simp only[AA,ZD]at g;simp only[aaP,c_vendi,Ai,ZH,ZD,-eq_self,Sc.eta_r,Sc.eta_k,Sc.eta_2,g];apply aI<;>intro c0
 ·(simp_all)
 apply aI<;>intro c1
 ·(simp_all)
 ·(simp_all)
def c_vwid0:Cd:=⟨88,[.agg kRg,.agg kRg],[.agg kRg],rd_Rg fun a=>rd_Rg fun b _=>d_Rg (Gc a b) [],T0⟩
def aaI:Tr:=
(.call 0 (kRg) .nil 8
(.call 1 [.int .u64] (.cons (.w 0) (.cons (.w 4) (.cons (.w 8) (.j (.lt (.w 4) (.w 0)) .nil)))) 12
(.call 1 [.int .u64] (.cons (.w 1) (.cons (.w 5) (.cons (.w 9) (.j (.lt (.w 1) (.w 5)) .nil)))) 13
(.call 2 [.int .i64] (.cons (.w 2) (.cons (.w 6) (.cons (.w 10) (.j (.lt (.w 6) (.w 2)) .nil)))) 14
(.call 2 [.int .i64] (.cons (.w 3) (.cons (.w 7) (.cons (.w 11) (.j (.lt (.w 3) (.w 7)) .nil)))) 15
(.u (.vs 12 4 .nil)))))))
def aqm:c_vwid0.Ok ZF:=
 AU aaI (v_Rg (v_Rg [])) cf (Am nS<|Am aqr<|Am aqs AI) func88<|dz fun a ha=>dz fun b hb hp U g=>by
 simp only[AJ,AA,ZD]at g;simp only[aaI,c_all,c_vendu,c_vendi,c_vwid0,AJ,Ai,ZH,ZD,-eq_self,bA,g];refine aM ?_;refine aM ?_;refine aM ?_;refine aM ?_;refine aM ?_
 .rfl
def c_vtwow:Cd:=⟨85,[.agg kSc,.agg kSc,.one (.fn 88),.one (.fn 87)],[.agg kSc],rd_Sc fun a=>rd_Sc fun b _=>d_Sc (DJ a b) [],T0⟩
def aaJ:Tr:=
(.call 0 [.bool] (.vs 0 6 .nil) 12
(.br (.s 12)
(.call 0 [.bool] (.vs 6 6 .nil) 13
(.br (.s 13)
(.call 3 (kRg) (.vs 0 4 (.vs 6 4 .nil)) 14
(.call 4 (kKn) (.vs 4 2 (.vs 10 2 .nil)) 18
(.call 2 (kSc) (.vs 14 6 .nil) 20
(.u (.vs 20 6 .nil)))))
(.call 1 (kSc) .nil 14
(.u (.vs 14 6 .nil)))))
(.call 1 (kSc) .nil 13
(.u (.vs 13 6 .nil)))))
def aqn:c_vtwow.Ok ZF:=
 AU aaJ (v_Sc (v_Sc [])) cf (Am ox<|Am rZ<|Am nQ<|Am aqm<|Am ahS AI) func85<|dy fun a ha=>dy fun b hb hp U g=>by
 simp only[AP,AJ,AM,AA,ZD]at g;simp only[aaJ,c_vmay,c_vall,c_vnard,c_vwid0,c_kjoin,c_vtwow,AP,AJ,AM,Ai,ZH,ZD,-eq_self,bA,g];refine aM ?_;apply aI<;>intro c0;refine aM ?_;apply aI<;>intro c1;refine aM ?_;refine aM ?_;refine aM ?_
 ·(rw[show DJ a b=Cj (sc (Gc a.r b.r) (jv a.k b.k))from ae ⟨c0,c1⟩];try rfl)
 refine aM ?_
 ·(rw[show DJ a b=vall from aa (fun q=>by simp_all)];try rfl)
 refine aM ?_
 ·(rw[show DJ a b=vall from aa (fun q=>by simp_all)];try rfl)
def c_vwid:Cd:=⟨49,[.agg kSc,.agg kSc],[.agg kSc],rd_Sc fun a=>rd_Sc fun b _=>d_Sc (DJ a b) [],T0⟩
def afG:Tr:=
(.call 0 (kSc) (.vs 0 12 .nil) 12
(.u (.vs 12 6 .nil)))
def asZ:c_vwid.Ok ZF:=
 AU afG (v_Sc (v_Sc [])) cf (Am aqn AI) func49<|dy fun a ha=>dy fun b hb hp U g=>by
 simp only[AP,AA,ZD]at g;simp only[afG,c_vtwow,c_vwid,AP,Ai,ZH,ZD,-eq_self,bA,g];refine aM ?_
 .rfl
def c_vlow:Cd:=⟨112,[.agg kSc],[.agg kSc],rd_Sc fun a _=>d_Sc (I7 a) [],T0⟩
def afM:Tr:=
(.call 0 (kRg) (.vs 0 4 .nil) 6
(.call 1 (kKn) (.vs 4 2 (.cons (.p 32) .nil)) 10
(.call 2 (kSc) (.vs 6 6 .nil) 12
(.u (.vs 12 6 .nil)))))
def as1:c_vlow.Ok ZF:=
 AU afM (v_Sc []) cf (Am ath<|Am am1<|Am nQ AI) func112<|dy fun a ha hp U g=>by
 simp only[AP,AJ,AM,AA,ZD]at g;simp only[afM,c_low,c_kcut,c_vnard,c_vlow,AP,AJ,AM,Ai,ZH,ZD,-eq_self,bA,g];refine aM ?_;refine aM ?_;refine aM ?_
 .rfl
def c_vhalf:Cd:=⟨113,[.one (.int .i8),.agg kSc,.agg kSc],[.agg kRg],rdZ fun op=>rd_Sc fun a=>rd_Sc fun b _=>d_Rg (eY op a b) [],T0⟩
def aob:Tr:=(.call 2 [.int .u64,.bool] (.vs 7 6 .nil) 21
(.br (.s 22)
(.call 3 (kSc) (.cons (.f .and .u64 (.w 21) (.p 31)) .nil) 23
(.call 4 (kRg) (.vs 0 5 (.vs 23 4 .nil)) 29
(.br (.lt (.w 30) (.p 4294967296))
(.u (.vs 29 4 .nil))
(.u (.vs 17 4 .nil)))))
(.u (.vs 17 4 .nil))))
def aaN:Tr:=
(.call 0 (kRg) .nil 13
(.call 1 (kRg) (.vs 13 4 .nil) 17
(.br (.eq (.w 0) (.p 8))
(.u (.vs 17 4 .nil))
(.br (.eq (.w 0) (.p 12))
(.u (.vs 17 4 .nil))
(.br (.eq (.w 0) (.p 6))
 aob
(.br (.eq (.w 0) (.p 7))
 aob
(.call 4 (kRg) (.vs 0 5 (.vs 7 4 .nil)) 21
(.br (.lt (.w 22) (.p 4294967296))
(.u (.vs 21 4 .nil))
(.u (.vs 17 4 .nil))))))))))
def aqq:c_vhalf.Ok ZF:=
 AU aaN (.int .i8::v_Sc (v_Sc [])) cf (Am nS<|Am ath<|Am ahM<|Am TP<|Am R5 AI) func113<|fun op Ad=>dy fun a ha=>dy fun b hb hp U g=>by
 simp only[AP,AJ,AA,ZD]at g;simp only[aaN,aob,c_all,c_low,c_vsingle,c_vone,c_do,c_vhalf,AP,AJ,Ai,ZH,ZD,-eq_self,bA,g];refine aM ?_;refine aM ?_;apply aI<;>intro c0
 ·(obtain rfl:=A4 c0;rw[show eY 8 a b=C5 ball from by unfold eY;simp];try rfl)
 apply aI<;>intro c1
 ·(obtain rfl:=A4 c1;rw[show eY 12 a b=C5 ball from by unfold eY;simp];try rfl)
 apply aI<;>intro c2;refine aM ?_;apply aI<;>intro c3;refine aM ?_;refine aM ?_;apply aI<;>intro c4
 ·(obtain rfl:=A4 c2;have h4:=Ah c4;rw[show eY 6 a b=DZ 6 a.r (Cb (Ac .and .u64 (jD b) 31)).r from(by unfold eY;rw[aa ST,ae ST,ae c3];exact ae h4)];try rfl)
 ·(obtain rfl:=A4 c2;have h4:=Ab c4;rw[show eY 6 a b=C5 ball from(by unfold eY;rw[aa ST,ae ST,ae c3];exact aa h4)];try rfl)
 ·(obtain rfl:=A4 c2;rw[show eY 6 a b=C5 ball from by unfold eY;simp[c3]];try rfl)
 apply aI<;>intro c5;refine aM ?_;apply aI<;>intro c6;refine aM ?_;refine aM ?_;apply aI<;>intro c7
 ·(obtain rfl:=A4 c5;have h4:=Ah c7;rw[show eY 7 a b=DZ 7 a.r (Cb (Ac .and .u64 (jD b) 31)).r from(by unfold eY;rw[aa ST,ae ST,ae c6];exact ae h4)];try rfl)
 ·(obtain rfl:=A4 c5;have h4:=Ab c7;rw[show eY 7 a b=C5 ball from(by unfold eY;rw[aa ST,ae ST,ae c6];exact aa h4)];try rfl)
 ·(obtain rfl:=A4 c5;rw[show eY 7 a b=C5 ball from by unfold eY;simp[c6]];try rfl)
 refine aM ?_;apply aI<;>intro c8
 ·(have n0:=CT c0;have n1:=CT c1;have n2:=CT c2;have n3:=CT c5;have h4:=Ah c8;rw[show eY op a b=DZ op a.r b.r from(by unfold eY;rw[aa Fn,aa Fn];exact ae h4)];try rfl)
 ·(have n0:=CT c0;have n1:=CT c1;have n2:=CT c2;have n3:=CT c5;have h4:=Ab c8;rw[show eY op a b=C5 ball from(by unfold eY;rw[aa Fn,aa Fn];exact aa h4)];try rfl)
def c_vbel4:Cd:=⟨77,[.one (.p .i64 32)],[.agg kSc],fun _=>d_Sc (H9 4294967295) [],T0⟩
def aaQ:Tr:=
(.call 0 (kRg) .nil 0
(.call 1 (kSc) (.cons (.w 0) (.cons (.p 4294967295) (.vs 2 2 (.cons (.p 0) (.cons (.p 4294967295) .nil))))) 4
(.u (.vs 4 6 .nil))))
def aqu:c_vbel4.Ok ZF:=
 AU aaQ [] cf (Am nS<|Am nQ AI) func77<|fun hp U g=>by
 simp only[aaQ,c_all,c_vnard,c_vbel4,AP,AJ,Ai,ZH,ZD,-eq_self,bA];refine aM ?_;refine aM ?_
 .rfl
def c_vby4:Cd:=⟨36,[.one (.p .i64 4)],[.agg kSc],fun _=>d_Sc (H9 4294967295) [],T0⟩
def afQ:Tr:=
(.call 0 (kSc) .nil 0
(.u (.vs 0 6 .nil)))
def as6:c_vby4.Ok ZF:=
 AU afQ [] cf (Am aqu AI) func36<|fun hp U g=>by
 simp only[afQ,c_vbel4,c_vby4,AP,Ai,ZH,ZD,-eq_self,bA];refine aM ?_
 .rfl
def aX{q:Prop}(k:q2)(h:p->q=q2:=by intro e;(try simp only[e,bA,-eq_self]);rfl):p->q:=fun e=>(h e).symm▸k
def aeC:List (Nat×TI):=[(38,fY),
 (39,fe),
 (48,jr),
 (168,⟨ZC,1,[.nf],[],ZE,ZE,ZC,ZC,ZE,8,ZB,ZE,ZC,0⟩),
 (221,⟨ZB,13,[.nf,.nf,.nf,.nf,.nf,.nf,.nf,.nf,.nf,.nf,.nf,.nf,.nf],[],ZA (13,168),ZE,ZC,ZC,ZE,104,ZC,ZE,ZC,0⟩)]
def eg:∀t i,(t,i)∈aeC->TIok ZF t i:=bl B1 B1 (by kernel_rfl)
def c_kcarr:Cd:=⟨180,[.one (.int .u64),.one (.int .u64),.agg kKn,.agg kKn],[.agg kKn],rdZ fun v=>rdZ fun x=>rd_Kn fun a=>rd_Kn fun b _=>d_Kn (kj v (bits .or .u64 (bits .or .u64 (bits .xor .u64 v x) a.m) b.m)) [],T0⟩
def aa3:Tr:=
(.call 0 (kKn) (.cons (.w 0) (.cons (.f .or .u64 (.f .or .u64 (.f .xor .u64 (.w 0) (.w 1)) (.w 3)) (.w 5)) .nil)) 6
(.u (.vs 6 2 .nil)))
def aqF:c_kcarr.Ok ZF:=
 AU aa3 (.int .u64::.int .u64::v_Kn (v_Kn [])) eg (Am nR AI) func180<|fun v hv x hx=>cM fun a ha=>cM fun b hb hp U g=>by
 simp only[AM,AA,ZD]at g;simp only[aa3,c_kmask,c_kcarr,AM,Ai,ZH,ZD,-eq_self,bA,g];refine aX ?_
 .rfl
def c_kadd:Cd:=⟨148,[.agg kKn,.agg kKn],[.agg kKn],rd_Kn fun a=>rd_Kn fun b _=>d_Kn (JU a b) [],T0⟩
def agm:Tr:=
(.call 0 (kKn) (.cons (.f .add .u64 (.w 0) (.w 2)) (.cons (.f .add .u64 (.f .add .u64 (.w 1) (.w 3)) (.f .add .u64 (.w 0) (.w 2))) (.vs 0 4 .nil))) 4
(.u (.vs 4 2 .nil)))
def atn:c_kadd.Ok ZF:=
 AU agm (v_Kn (v_Kn [])) eg (Am aqF AI) func148<|cM fun a ha=>cM fun b hb hp U g=>by
 simp only[AM,AA,ZD]at g;simp only[agm,c_kcarr,c_kadd,AM,Ai,ZH,ZD,-eq_self,bA,g];refine aX ?_
 ·(unfold JU;rfl)
def c_ksub:Cd:=⟨149,[.agg kKn,.agg kKn],[.agg kKn],rd_Kn fun a=>rd_Kn fun b _=>d_Kn (Gm a b) [],T0⟩
def agb:Tr:=
(.call 0 (kKn) (.cons (.f .sub .u64 (.w 0) (.w 2)) (.cons (.f .or .u64 (.f .or .u64 (.f .xor .u64 (.f .add .u64 (.f .sub .u64 (.w 0) (.w 2)) (.w 1)) (.f .sub .u64 (.f .sub .u64 (.w 0) (.w 2)) (.w 3))) (.w 1)) (.w 3)) .nil)) 4
(.u (.vs 4 2 .nil)))
def am0:c_ksub.Ok ZF:=
 AU agb (v_Kn (v_Kn [])) eg (Am nR AI) func149<|cM fun a ha=>cM fun b hb hp U g=>by
 simp only[AM,AA,ZD]at g;simp only[agb,c_kmask,c_ksub,AM,Ai,ZH,ZD,-eq_self,bA,g];refine aX ?_
 ·(unfold Gm;rfl)
def c_kneg:Cd:=⟨152,[.agg kKn,.agg kKn],[.agg kKn],rd_Kn fun a=>rd_Kn fun b _=>d_Kn (Gm (Ep 0) a) [],T0⟩
def age:Tr:=
(.call 0 (kKn) (.cons (.p 0) .nil) 4
(.call 1 (kKn) (.vs 4 2 (.vs 0 2 .nil)) 6
(.u (.vs 6 2 .nil))))
def atk:c_kneg.Ok ZF:=
 AU age (v_Kn (v_Kn [])) eg (Am Xa<|Am am0 AI) func152<|cM fun a ha=>cM fun b hb hp U g=>by
 simp only[AM,AA,ZD]at g;simp only[age,c_kone,c_ksub,c_kneg,AM,Ai,ZH,ZD,-eq_self,bA,g];refine aX ?_;refine aX ?_
 .rfl
def c_kand:Cd:=⟨151,[.agg kKn,.agg kKn],[.agg kKn],rd_Kn fun a=>rd_Kn fun b _=>d_Kn (O1 a b) [],T0⟩
def agk:Tr:=
(.u (.cons (.f .and .u64 (.w 0) (.w 2)) (.cons (.f .andNot .u64 (.f .and .u64 (.f .or .u64 (.w 0) (.w 1)) (.f .or .u64 (.w 2) (.w 3))) (.f .and .u64 (.w 0) (.w 2))) .nil)))
def atm:c_kand.Ok ZF:=
 AU agk (v_Kn (v_Kn [])) eg AI func151<|cM fun a ha=>cM fun b hb hp U g=>by
 simp only[AM,AA,ZD]at g;simp only[agk,c_kand,AM,Ai,ZH,ZD,-eq_self,Kn.eta,Sc.eta_r,Sc.eta_k,Sc.eta_2,g]
 .rfl
def c_kor:Cd:=⟨150,[.agg kKn,.agg kKn],[.agg kKn],rd_Kn fun a=>rd_Kn fun b _=>d_Kn (kor a b) [],T0⟩
def amx:Tr:=
(.u (.cons (.f .or .u64 (.w 0) (.w 2)) (.cons (.f .andNot .u64 (.f .or .u64 (.w 1) (.w 3)) (.f .or .u64 (.w 0) (.w 2))) .nil)))
def avi:c_kor.Ok ZF:=
 AU amx (v_Kn (v_Kn [])) eg AI func150<|cM fun a ha=>cM fun b hb hp U g=>by
 simp only[AM,AA,ZD]at g;simp only[amx,c_kor,AM,Ai,ZH,ZD,-eq_self,Kn.eta,Sc.eta_r,Sc.eta_k,Sc.eta_2,g]
 .rfl
def c_kxor:Cd:=⟨153,[.agg kKn,.agg kKn],[.agg kKn],rd_Kn fun a=>rd_Kn fun b _=>d_Kn (Mn a b) [],T0⟩
def aga:Tr:=
(.call 0 (kKn) (.cons (.f .xor .u64 (.w 0) (.w 2)) (.cons (.f .or .u64 (.w 1) (.w 3)) .nil)) 4
(.u (.vs 4 2 .nil)))
def ati:c_kxor.Ok ZF:=
 AU aga (v_Kn (v_Kn [])) eg (Am nR AI) func153<|cM fun a ha=>cM fun b hb hp U g=>by
 simp only[AM,AA,ZD]at g;simp only[aga,c_kmask,c_kxor,AM,Ai,ZH,ZD,-eq_self,bA,g];refine aX ?_
 .rfl
def c_ksec:Cd:=⟨154,[.agg kKn,.agg kKn],[.agg kKn],rd_Kn fun a=>rd_Kn fun b _=>d_Kn b [],T0⟩
def agc:Tr:=
(.u (.vs 2 2 .nil))
def atj:c_ksec.Ok ZF:=
 AU agc (v_Kn (v_Kn [])) eg AI func154<|cM fun a ha=>cM fun b hb hp U g=>by
 simp only[AM,AA,ZD]at g;simp only[agc,c_ksec,AM,Ai,ZH,ZD,-eq_self,Kn.eta,Sc.eta_r,Sc.eta_k,Sc.eta_2,g]
 .rfl
def c_kdo:Cd:=⟨111,[.one (.int .i8),.one (.int .i8),.agg kKn,.agg kKn],[.agg kKn],rdZ fun op=>rdZ fun l=>rd_Kn fun a=>rd_Kn fun b _=>d_Kn (Jo op l a b) [],T0⟩
def uT:Tr:=(.call 2 (kKn) (.vs 13 2 (.cons (.w 1) .nil)) 15
(.u (.vs 15 2 .nil)))
def Qo:Tr:=(.call 2 (kKn) (.vs 11 2 (.cons (.w 1) .nil)) 13
(.u (.vs 13 2 .nil)))
def aoa:E:=(.cons (.f .and .u64 (.w 9) (.f .sub .u64 (.F .u64 (.w 1)) (.p 1))) .nil)
def Uq:Tr:=(.br (.eq (.f .and .u64 (.w 10) (.f .sub .u64 (.F .u64 (.w 1)) (.p 1))) (.p 0))
(.call 3 [.int .u64,.int .i64] (.vs 0 2 (.cons (.w 7) aoa)) 13
(.call 3 [.int .u64,.int .i64] (.vs 0 2 (.cons (.w 8) aoa)) 15
(.call 5 (kKn) (.cons (.w 13) (.cons (.w 15) .nil)) 17
(.call 2 (kKn) (.vs 17 2 (.cons (.w 1) .nil)) 19
(.u (.vs 19 2 .nil))))))
 Qo)
def W7:Tr:=
(.cut 0 6 [.bool]
(.call 0 [.bool] (.vs 2 2 .nil) 6
(.br (.s 6)
(.call 0 [.bool] (.vs 4 2 .nil) 7
(.br (.s 7)
(.br (.lt (.w 0) (.p 0))
(.next 0 (.j (.tt ZB) .nil))
(.br (.lt (.p 12) (.w 0))
(.next 0 (.j (.tt ZB) .nil))
(.br (.eq (.w 1) (.p 32))
(.next 0 (.j (.tt ZC) .nil))
(.next 0 (.j (.not (.eq (.w 1) (.p 64))) .nil)))))
(.next 0 (.j (.tt ZB) .nil))))
(.next 0 (.j (.tt ZB) .nil))))
(.br (.s 6)
(.call 1 (kKn) .nil 7
(.u (.vs 7 2 .nil)))
(.call 2 (kKn) (.vs 2 2 (.cons (.w 1) .nil)) 7
(.call 2 (kKn) (.vs 4 2 (.cons (.w 1) .nil)) 9
(.br (.eq (.f .or .u64 (.w 8) (.w 10)) (.p 0))
(.call 3 [.int .u64,.int .i64] (.vs 0 2 (.cons (.w 7) (.cons (.w 9) .nil))) 11
(.call 4 (kKn) (.cons (.w 11) .nil) 13
(.u (.vs 13 2 .nil))))
(.call 1 (kKn) .nil 11
(.br (.eq (.w 0) (.p 6))
 Uq
(.br (.eq (.w 0) (.p 7))
 Uq
(.br (.eq (.w 0) (.p 12))
 Uq
(.br (.eq (.w 0) (.p 0))
(.call 6 (kKn) (.vs 7 4 .nil) 13
 uT)
(.br (.eq (.w 0) (.p 1))
(.call 7 (kKn) (.vs 7 4 .nil) 13
 uT)
(.br (.eq (.w 0) (.p 2))
 Qo
(.br (.eq (.w 0) (.p 3))
 Qo
(.br (.eq (.w 0) (.p 4))
(.call 8 (kKn) (.vs 7 4 .nil) 13
 uT)
(.br (.eq (.w 0) (.p 5))
(.call 9 (kKn) (.vs 7 4 .nil) 13
 uT)
(.br (.eq (.w 0) (.p 8))
(.call 10 (kKn) (.vs 7 4 .nil) 13
 uT)
(.br (.eq (.w 0) (.p 9))
 Qo
(.br (.eq (.w 0) (.p 10))
(.call 11 (kKn) (.vs 7 4 .nil) 13
 uT)
(.br (.eq (.w 0) (.p 11))
(.call 12 (kKn) (.vs 7 4 .nil) 13
 uT)
.panic)))))))))))))))))))
def asb:cg aeC (FV 0 [c_kmay,c_kall,c_kcut,c_bits,c_kone,c_kmask,c_kadd,c_ksub,c_kor,c_kand,c_kneg,c_kxor,c_ksec]) [] [] [(2,[.tmpB 42]++E3 [(19,23)])] 200 f111 c_kdo.a c_kdo.r (tp c_kdo.r) (.int .i8::.int .i8::v_Kn (v_Kn [])) W7:=E4 (by kernel_rfl)
def avj:c_kdo.Ok ZF:=
 GD W7 (.int .i8::.int .i8::v_Kn (v_Kn [])) eg (Am sd<|Am xi<|Am am1<|Am aty<|Am Xa<|Am nR<|Am atn<|Am am0<|Am avi<|Am atm<|Am atk<|Am ati<|Am atj AI) func111 EZ asb<|fun op Ad l hl=>cM fun a ha=>cM fun b hb hp U g=>by
 have Aq:=g;simp only[AM,AA,ZD]at g;simp only[W7,Uq,aoa,Qo,uT,c_kmay,c_kall,c_kcut,c_bits,c_kone,c_kmask,c_kadd,c_ksub,c_kor,c_kand,c_kneg,c_kxor,c_ksec,c_kdo,AM,Ai,ZH,ZD,-eq_self,bA,g];refine⟨fun ds=>ds=[.z (AD (!ed op l a b))],?_,?_⟩;refine aX ?_;apply aI<;>intro c0;refine aX ?_;apply aI<;>intro c1;apply aI<;>intro c2
 .show[Dt.z (AD ZB)]=[Dt.z (AD (!ed op l a b))];rw[au8 c2];rfl
 apply aI<;>intro c3
 .show[Dt.z (AD ZB)]=[Dt.z (AD (!ed op l a b))];rw[au9 c3];rfl
 apply aI<;>intro c4
 .show[Dt.z (AD ZC)]=[Dt.z (AD (!ed op l a b))];rw[(asR c0 c1 c2 c3 (by rw[A4 c4];rfl)).1];rfl
 .show[Dt.z (AD (!(l==64)))]=[Dt.z (AD (!ed op l a b))];cases h:(l==64);rw[kd_w c4 h];rw[(asR c0 c1 c2 c3 (by rw[A4 h];rfl)).1]
 .show[Dt.z (AD ZB)]=[Dt.z (AD (!ed op l a b))];rw[kd_b c1];rfl
 .show[Dt.z (AD ZB)]=[Dt.z (AD (!ed op l a b))];rw[kd_a c0];rfl
 intro U1 A0 _ Bc;have g6:U1.b 6 = !ed op l a b:=nW (Dt.z.inj (List.cons.inj Bc).1);have Sa:=And.intro ((A0 0 ST).1.symm.trans g.1) (And.intro ((A0 1 ST).1.symm.trans g.2.1) (And.intro ((A0 2 ST).1.symm.trans g.2.2.1) (And.intro ((A0 3 ST).1.symm.trans g.2.2.2.1) (And.intro ((A0 4 ST).1.symm.trans g.2.2.2.2.1) ((A0 5 ST).1.symm.trans g.2.2.2.2.2)))));simp only[Sa,g6,Kn.eta,-eq_self];apply aI<;>intro c5;refine aX ?_
 .exact dZ (asS (by simpa using c5))
 obtain⟨hg,ho,hl⟩:=au7 c5;refine aX ?_;refine aX ?_;apply aI<;>intro c6;refine aX ?_;refine aX ?_
 .exact dZ (asQ hg c6)
 refine aX ?_;apply aI<;>intro c7;apply aI<;>intro c8;refine aX ?_;refine aX ?_;refine aX ?_;refine aX ?_
 ·(obtain rfl:=A4 c7;rcases hl with rfl|rfl<;>exact dZ (lf hg c6 (aqg ST c8)))
 refine aX ?_
 ·(obtain rfl:=A4 c7;rcases hl with rfl|rfl<;>exact dZ (lf hg c6 (aqh ST c8)))
 apply aI<;>intro c9;apply aI<;>intro BF;refine aX ?_;refine aX ?_;refine aX ?_;refine aX ?_
 ·(obtain rfl:=A4 c9;rcases hl with rfl|rfl<;>exact dZ (lf hg c6 (aqg ST BF)))
 refine aX ?_
 ·(obtain rfl:=A4 c9;rcases hl with rfl|rfl<;>exact dZ (lf hg c6 (aqh ST BF)))
 apply aI<;>intro CF;apply aI<;>intro B9;refine aX ?_;refine aX ?_;refine aX ?_;refine aX ?_
 ·(obtain rfl:=A4 CF;rcases hl with rfl|rfl<;>exact dZ (lf hg c6 (aqg ST B9)))
 refine aX ?_
 ·(obtain rfl:=A4 CF;rcases hl with rfl|rfl<;>exact dZ (lf hg c6 (aqh ST B9)))
 apply aI<;>intro Cr;refine aX ?_;refine aX ?_
 ·(obtain rfl:=A4 Cr;exact dZ (lf hg c6 rfl))
 apply aI<;>intro CG;refine aX ?_;refine aX ?_
 ·(obtain rfl:=A4 CG;exact dZ (lf hg c6 rfl))
 apply aI<;>intro C1;refine aX ?_
 ·(obtain rfl:=A4 C1;exact dZ (lf hg c6 rfl))
 apply aI<;>intro Dk;refine aX ?_
 ·(obtain rfl:=A4 Dk;exact dZ (lf hg c6 rfl))
 apply aI<;>intro Df;refine aX ?_;refine aX ?_
 ·(obtain rfl:=A4 Df;exact dZ (lf hg c6 rfl))
 apply aI<;>intro Dg;refine aX ?_;refine aX ?_
 ·(obtain rfl:=A4 Dg;exact dZ (lf hg c6 rfl))
 apply aI<;>intro Dz;refine aX ?_;refine aX ?_
 ·(obtain rfl:=A4 Dz;exact dZ (lf hg c6 rfl))
 apply aI<;>intro DA;refine aX ?_
 ·(obtain rfl:=A4 DA;exact dZ (lf hg c6 rfl))
 apply aI<;>intro EM;refine aX ?_;refine aX ?_
 ·(obtain rfl:=A4 EM;exact dZ (lf hg c6 rfl))
 apply aI<;>intro FY;refine aX ?_;refine aX ?_
 ·(obtain rfl:=A4 FY;exact dZ (lf hg c6 rfl))
 ·(have JH:=CT c7;have HH:=CT c9;have Jb:=CT CF;have h13:=CT Cr;have h14:=CT CG;have h15:=CT C1;have h16:=CT Dk;have h17:=CT Df;have h18:=CT Dg;have h19:=CT Dz;have h20:=CT DA;have h21:=CT EM;have h22:=CT FY;omega)
def df{q:Prop}(k:q2)(h:p->q=q2:=by intro e;(try simp only[e,bA,-eq_self]);rfl):p->q:=fun e=>(h e).symm▸k
def aoL:List (Nat×TI):=[(2,CC),
 (33,Qt),
 (38,fY),
 (39,fe),
 (46,ic),
 (48,jr),
 (50,PI)]
def vl:∀t i,(t,i)∈aoL->TIok ZF t i:=bl B1 B1 (by kernel_rfl)
def c_bits0:Cd:=⟨108,[.one (.int .i8),.one (.int .i8),.one (.p .u64 0),.one (.p .u64 0)],[.one (.int .u64),.one (.int .i64)],rdZ fun op=>rdZ fun l _=>[.z (if Bv op l=ZB then BE op l 0 0 else 0),.z (if Bv op l=ZB then 0 else 2)],T0⟩
def akr(op:Int)(Ad:Ae .i8 op=ZB)(l:Int)(hl:Ae .i8 l=ZB):(∀w,Calls ZF 108 #[.int .i8 op,.int .i8 l,.int .u64 0,.int .u64 0] w fun e w'=>e=.returned (.tuple #[.int .u64 (if Bv op l=ZB then BE op l 0 0 else 0),.int .i64 (if Bv op l=ZB then 0 else 2)])/\Ext w w')/\fU (.tuple #[.int .u64 (if Bv op l=ZB then BE op l 0 0 else 0),.int .i64 (if Bv op l=ZB then 0 else 2)])=ZB:=by exact afA op Ad l hl 0 ST 0 ST
def aqK:c_bits0.Ok ZF:=fun hF hP=>by
 refine SmOk.pure (s:=c_bits0.m _) hF rfl rfl fun xs vals w h=> ?_;obtain⟨_,_,_,rfl,⟨x0,rfl,rfl,C6⟩,h⟩:=h;obtain⟨_,_,_,rfl,⟨x1,rfl,rfl,Do⟩,h⟩:=h;obtain⟨_,_,_,rfl,⟨rfl,rfl⟩,h⟩:=h;obtain⟨_,_,_,rfl,⟨rfl,rfl⟩,h⟩:=h;obtain⟨rfl,rfl⟩:=h;have q:=akr x0 C6 x1 Do;refine⟨_,.inr ⟨dM func108 (by kernel_rfl) (by kernel_rfl) _ w,q.1 w⟩,?_,fun U v0 nid j he=> ?_⟩
 .have q2:=q.2;simp[fU,fh,fq]at q2;simp[c_bits0,Cd.m,tp,rdZ,rdB,rdL,ZQ,ZS,Sh.cks,ZP,YO,YP,b2i_one,gJ,q2]
 .simp only[c_bits0,Cd.m,tp,rdZ,rdB,rdL,ZQ,ZS,Sh.cks,ZP,YO,YP,b2i_one,eqs,dI,dB,cD,mj,bP,Nat.add_zero,ZD,and_true]at he;simp[c_bits0,Cd.m,tp,rdZ,rdB,rdL,ZQ,ZS,Sh.cks,ZP,YO,YP,b2i_one,gi,bM,aH,V.den,C.den,Af,BJ,cu,E.I,E.B,he]
def c_vdo:Cd:=⟨74,[.one (.int .i8),.one (.int .i8),.agg kSc,.agg kSc],[.agg kSc],rdZ fun op=>rdZ fun l=>rd_Sc fun a=>rd_Sc fun b _=>d_Sc (Hy op l a b) [],T0⟩
def amo:Tr:=
(.call 0 [.int .u64,.int .i64] (.vs 0 2 .nil) 14
(.br (.eq (.w 15) (.p 0))
(.call 1 [.bool] (.vs 2 6 .nil) 16
(.br (.s 16)
(.call 1 [.bool] (.vs 8 6 .nil) 17
(.br (.s 17)
(.br (.eq (.w 1) (.p 64))
(.call 3 (kRg) (.cons (.w 0) (.vs 2 4 (.vs 8 4 .nil))) 18
(.call 4 (kKn) (.vs 0 2 (.vs 6 2 (.vs 12 2 .nil))) 22
(.call 5 (kSc) (.vs 18 6 .nil) 24
(.u (.vs 24 6 .nil)))))
(.call 6 (kSc) (.vs 2 6 .nil) 18
(.call 6 (kSc) (.vs 8 6 .nil) 24
(.call 7 (kRg) (.cons (.w 0) (.vs 18 12 .nil)) 30
(.call 4 (kKn) (.vs 0 2 (.vs 22 2 (.vs 28 2 .nil))) 34
(.call 8 (kSc++[.bool]) (.vs 30 6 .nil) 36
(.br (.s 42)
(.u (.vs 36 6 .nil))
(.call 9 (kSc) .nil 43
(.u (.vs 43 6 .nil))))))))))
(.call 2 (kSc) .nil 18
(.u (.vs 18 6 .nil)))))
(.call 2 (kSc) .nil 17
(.u (.vs 17 6 .nil)))))
(.call 2 (kSc) .nil 16
(.u (.vs 16 6 .nil)))))
def avc:c_vdo.Ok ZF:=
 AU amo (.int .i8::.int .i8::v_Sc (v_Sc [])) vl (Am aqK<|Am ox<|Am rZ<|Am R5<|Am avj<|Am nQ<|Am as1<|Am aqq<|Am W8<|Am as6 AI) func74<|fun op Ad l hl=>dy fun a ha=>dy fun b hb hp U g=>by
 simp only[AP,AJ,AM,AA,ZD]at g;simp only[amo,c_bits0,c_vmay,c_vall,c_do,c_kdo,c_vnard,c_vlow,c_vhalf,c_vnar,c_vby4,c_vdo,AP,AJ,AM,Ai,ZH,ZD,-eq_self,bA,g];refine df ?_;apply aI<;>intro c0;refine df ?_;apply aI<;>intro c1;refine df ?_;apply aI<;>intro c2;apply aI<;>intro c3;refine df ?_;refine df ?_;refine df ?_
 ·(obtain rfl:=A4 c3;have hk:=ap2 c0;rw[show Hy op 64 a b=Cj (sc (DZ op a.r b.r) (Jo op 64 a.k b.k))from by unfold Hy;simp[hk,c1,c2]];try rfl)
 refine df ?_;refine df ?_;refine df ?_;refine df ?_;refine df ?_;apply aI<;>intro c4
 ·(have n:=CT c3;have hk:=ap2 c0;have c5:Dc (Qh op l a b)=ZB:=c4;rw[show Hy op l a b=Cj (Qh op l a b)from by unfold Hy;simp[hk,c1,c2,n,c5]];try rfl)
 refine df ?_
 ·(have n:=CT c3;have hk:=ap2 c0;have c5:Dc (Qh op l a b)=ZC:=c4;rw[show Hy op l a b=H9 4294967295 from by unfold Hy;simp[hk,c1,c2,n,c5]];try rfl)
 refine df ?_
 ·(rw[show Hy op l a b=vall from by unfold Hy;simp[c2]];try rfl)
 refine df ?_
 ·(rw[show Hy op l a b=vall from by unfold Hy;simp[c1]];try rfl)
 refine df ?_
 ·(have hk:=asG c0;rw[show Hy op l a b=vall from by unfold Hy;simp[hk]];try rfl)
def c_vgiv:Cd:=⟨43,[.one (.int .i8),.agg kSc,.agg kSc],[.agg kSc,.one .bool],rdZ fun cc=>rd_Sc fun a=>rd_Sc fun b _=>d_Sc (Eu cc a b) [.z (AD (DI cc a b))],T0⟩
def afO:Tr:=
(.call 0 [.bool] (.vs 1 6 .nil) 13
(.br (.s 13)
(.call 0 [.bool] (.vs 7 6 .nil) 14
(.br (.s 14)
(.call 2 (kRg++[.bool]) (.vs 0 5 (.vs 7 4 .nil)) 15
(.br (.s 19)
(.br (.eq (.w 0) (.p 0))
(.call 3 (kKn++[.bool]) (.vs 5 2 (.vs 11 2 .nil)) 20
(.br (.s 22)
(.call 4 (kSc++[.bool]) (.vs 15 4 (.vs 20 2 .nil)) 23
(.u (.vs 23 6 (.j (.s 29) .nil))))
(.call 1 (kSc) .nil 23
(.u (.vs 23 6 (.j (.tt ZC) .nil))))))
(.call 4 (kSc++[.bool]) (.vs 15 4 (.vs 5 2 .nil)) 20
(.u (.vs 20 6 (.j (.s 26) .nil)))))
(.call 1 (kSc) .nil 20
(.u (.vs 20 6 (.j (.tt ZC) .nil))))))
(.call 1 (kSc) .nil 15
(.u (.vs 15 6 (.j (.tt ZC) .nil))))))
(.call 1 (kSc) .nil 14
(.u (.vs 14 6 (.j (.tt ZC) .nil))))))
def as3:c_vgiv.Ok ZF:=
 AU afO (.int .i8::v_Sc (v_Sc [])) vl (Am ox<|Am rZ<|Am aqJ<|Am ahR<|Am W8 AI) func43<|fun cc Cu=>dy fun a ha=>dy fun b hb hp U g=>by
 simp only[AP,AJ,AM,AA,ZD]at g;simp only[afO,c_vmay,c_vall,c_given,c_kmeet,c_vnar,c_vgiv,AP,AJ,AM,Ai,ZH,ZD,-eq_self,bA,g];refine df ?_;apply aI<;>intro c0;refine df ?_;apply aI<;>intro c1;refine df ?_;apply aI<;>intro c2;apply aI<;>intro c3;refine df ?_;apply aI<;>intro c4;refine df ?_
 ·(have q:=Sv c0 c1 c2 c3 c4;rw[q.1,q.2];try rfl)
 refine df ?_
 ·(have q:=Mz (cc:=cc) (a:=a) (b:=b) (.inr (.inr (.inr ⟨c3,c4⟩)));rw[q.1,q.2];try rfl)
 refine df ?_
 ·(have q:=Sw c0 c1 c2 c3;rw[q.1,q.2];try rfl)
 refine df ?_
 ·(have q:=Mz (cc:=cc) (a:=a) (b:=b) (.inr (.inr (.inl c2)));rw[q.1,q.2];try rfl)
 refine df ?_
 ·(have q:=Mz (cc:=cc) (a:=a) (b:=b) (.inr (.inl c1));rw[q.1,q.2];try rfl)
 refine df ?_
 ·(have q:=Mz (cc:=cc) (a:=a) (b:=b) (.inl c0);rw[q.1,q.2];try rfl)
def DH(k:Int->Int->Int->Int->Int->Int->Int->Int->List Dt->List Dt):List Dt->List Dt
 |.z a::.z b::.z c::.z d::.z e::.z f::.z g::.z h::r=>k a b c d e f g h r
 |_=>[]
def Ty.eta(a:Ty):(⟨a.k,a.ul,a.uh,a.sl,a.sh,a.v,a.m,a.lo,a.hi⟩:Ty)=a:=rfl
def rd_Ty(k:Ty->List Dt->List Dt):List Dt->List Dt
 |.z z0::.z z1::.z z2::.z z3::.z z4::.z z5::.z z6::.z z7::.z z8::r=>k ⟨z0,z1,z2,z3,z4,z5,z6,z7,z8⟩ r
 |_=>[]
def Ty.ok(a:Ty):Prop:=Ae .i8 a.k=ZB/\Ae .u64 a.ul=ZB/\Ae .u64 a.uh=ZB/\Ae .i64 a.sl=ZB/\Ae .i64 a.sh=ZB/\Ae .u64 a.v=ZB/\Ae .u64 a.m=ZB/\Ae .i64 a.lo=ZB/\Ae .i64 a.hi=ZB
def kTy:List CK:=[.int .i8,.int .u64,.int .u64,.int .i64,.int .i64,.int .u64,.int .u64,.int .i64,.int .i64]
def v_Ty(t:List VK):List VK:=.int .i8::.int .u64::.int .u64::.int .i64::.int .i64::.int .u64::.int .u64::.int .i64::.int .i64::t
def d_Ty(a:Ty)(t:List Dt):List Dt:=.z a.k::.z a.ul::.z a.uh::.z a.sl::.z a.sh::.z a.v::.z a.m::.z a.lo::.z a.hi::t
def bL{l:List VK}{p:List Dt->Prop}(h:∀a:Ty,Ty.ok a->aS l fun r=>p (d_Ty a r)):aS (v_Ty l) p:=fun x0 C6 x1 Do x2 Ge x3 Gf x4 LW x5 KL x6 LX x7 LY x8 LZ=>h ⟨x0,x1,x2,x3,x4,x5,x6,x7,x8⟩ ⟨C6,Do,Ge,Gf,LW,KL,LX,LY,LZ⟩
def fz(k:Ty->List Dt->List Dt)(a:Ty)(t:List Dt):rd_Ty k (d_Ty a t)=k a t:=rfl
def AE:=aI @v_Ty.eq_1 (aI @d_Ty.eq_1 (aI @rd_Ty.eq_1 (@kTy.eq_1)))
def Sta.eta(a:Sta):(⟨a.r0,a.r1,a.r2,a.r3,a.r4,a.r5,a.r6,a.r7,a.r8,a.r9,a.r10,a.s0,a.s1,a.s2,a.s3,a.s4,a.s5,a.s6,a.s7⟩:Sta)=a:=rfl
def rd_Sta(k:Sta->List Dt->List Dt):List Dt->List Dt:=rd_Ty fun r0=>rd_Ty fun r1=>rd_Ty fun r2=>rd_Ty fun r3=>rd_Ty fun r4=>rd_Ty fun r5=>rd_Ty fun r6=>rd_Ty fun r7=>rd_Ty fun r8=>rd_Ty fun r9=>rd_Ty fun r10=>rd_Ty fun s0=>rd_Ty fun s1=>rd_Ty fun s2=>rd_Ty fun s3=>rd_Ty fun s4=>rd_Ty fun s5=>rd_Ty fun s6=>rd_Ty fun s7=>fun r=>k ⟨r0,r1,r2,r3,r4,r5,r6,r7,r8,r9,r10,s0,s1,s2,s3,s4,s5,s6,s7⟩ r
def Sta.ok(a:Sta):Prop:=Ty.ok a.r0/\Ty.ok a.r1/\Ty.ok a.r2/\Ty.ok a.r3/\Ty.ok a.r4/\Ty.ok a.r5/\Ty.ok a.r6/\Ty.ok a.r7/\Ty.ok a.r8/\Ty.ok a.r9/\Ty.ok a.r10/\Ty.ok a.s0/\Ty.ok a.s1/\Ty.ok a.s2/\Ty.ok a.s3/\Ty.ok a.s4/\Ty.ok a.s5/\Ty.ok a.s6/\Ty.ok a.s7
def kSta:List CK:=[.int .i8,.int .u64,.int .u64,.int .i64,.int .i64,.int .u64,.int .u64,.int .i64,.int .i64,.int .i8,.int .u64,.int .u64,.int .i64,.int .i64,.int .u64,.int .u64,.int .i64,.int .i64,.int .i8,.int .u64,.int .u64,.int .i64,.int .i64,.int .u64,.int .u64,.int .i64,.int .i64,.int .i8,.int .u64,.int .u64,.int .i64,.int .i64,.int .u64,.int .u64,.int .i64,.int .i64,.int .i8,.int .u64,.int .u64,.int .i64,.int .i64,.int .u64,.int .u64,.int .i64,.int .i64,.int .i8,.int .u64,.int .u64,.int .i64,.int .i64,.int .u64,.int .u64,.int .i64,.int .i64,.int .i8,.int .u64,.int .u64,.int .i64,.int .i64,.int .u64,.int .u64,.int .i64,.int .i64,.int .i8,.int .u64,.int .u64,.int .i64,.int .i64,.int .u64,.int .u64,.int .i64,.int .i64,.int .i8,.int .u64,.int .u64,.int .i64,.int .i64,.int .u64,.int .u64,.int .i64,.int .i64,.int .i8,.int .u64,.int .u64,.int .i64,.int .i64,.int .u64,.int .u64,.int .i64,.int .i64,.int .i8,.int .u64,.int .u64,.int .i64,.int .i64,.int .u64,.int .u64,.int .i64,.int .i64,.int .i8,.int .u64,.int .u64,.int .i64,.int .i64,.int .u64,.int .u64,.int .i64,.int .i64,.int .i8,.int .u64,.int .u64,.int .i64,.int .i64,.int .u64,.int .u64,.int .i64,.int .i64,.int .i8,.int .u64,.int .u64,.int .i64,.int .i64,.int .u64,.int .u64,.int .i64,.int .i64,.int .i8,.int .u64,.int .u64,.int .i64,.int .i64,.int .u64,.int .u64,.int .i64,.int .i64,.int .i8,.int .u64,.int .u64,.int .i64,.int .i64,.int .u64,.int .u64,.int .i64,.int .i64,.int .i8,.int .u64,.int .u64,.int .i64,.int .i64,.int .u64,.int .u64,.int .i64,.int .i64,.int .i8,.int .u64,.int .u64,.int .i64,.int .i64,.int .u64,.int .u64,.int .i64,.int .i64,.int .i8,.int .u64,.int .u64,.int .i64,.int .i64,.int .u64,.int .u64,.int .i64,.int .i64]
def v_Sta(t:List VK):List VK:=v_Ty (v_Ty (v_Ty (v_Ty (v_Ty (v_Ty (v_Ty (v_Ty (v_Ty (v_Ty (v_Ty (v_Ty (v_Ty (v_Ty (v_Ty (v_Ty (v_Ty (v_Ty (v_Ty (t)))))))))))))))))))
def d_Sta(a:Sta)(t:List Dt):List Dt:=d_Ty a.r0 (d_Ty a.r1 (d_Ty a.r2 (d_Ty a.r3 (d_Ty a.r4 (d_Ty a.r5 (d_Ty a.r6 (d_Ty a.r7 (d_Ty a.r8 (d_Ty a.r9 (d_Ty a.r10 (d_Ty a.s0 (d_Ty a.s1 (d_Ty a.s2 (d_Ty a.s3 (d_Ty a.s4 (d_Ty a.s5 (d_Ty a.s6 (d_Ty a.s7 (t)))))))))))))))))))
def dX{l:List VK}{p:List Dt->Prop}(h:∀a:Sta,Sta.ok a->aS l fun r=>p (d_Sta a r)):aS (v_Sta l) p:=bL fun r0 GR=>bL fun r1 Ht=>bL fun r2 LB=>bL fun r3 OP=>bL fun r4 P4=>bL fun r5 hr5=>bL fun r6 hr6=>bL fun r7 hr7=>bL fun r8 hr8=>bL fun r9 hr9=>bL fun r10 hr10=>bL fun s0 RH=>bL fun s1 CH=>bL fun s2 JO=>bL fun s3 Vb=>bL fun s4 hs4=>bL fun s5 hs5=>bL fun s6 hs6=>bL fun s7 hs7=>h ⟨r0,r1,r2,r3,r4,r5,r6,r7,r8,r9,r10,s0,s1,s2,s3,s4,s5,s6,s7⟩ ⟨GR,Ht,LB,OP,P4,hr5,hr6,hr7,hr8,hr9,hr10,RH,CH,JO,Vb,hs4,hs5,hs6,hs7⟩
def bY(k:Sta->List Dt->List Dt)(a:Sta)(t:List Dt):rd_Sta k (d_Sta a t)=k a t:=by simp only[rd_Sta,d_Sta,fz]
def cd:=aI @v_Sta.eq_1 (aI @d_Sta.eq_1 (aI @rd_Sta.eq_1 (@kSta.eq_1)))
def Snap.eta(a:Snap):(⟨a.r0,a.r1,a.r2,a.r3,a.r4,a.r5,a.r6,a.r7,a.r8,a.r9,a.r10,a.set,a.f0,a.f1,a.f2,a.f3,a.f4,a.f5,a.f6,a.f7,a.f8,a.f9,a.f10,a.f11,a.f12,a.f13,a.f14,a.f15,a.f16,a.f17,a.f18,a.f19,a.f20,a.f21,a.f22,a.f23,a.f24,a.f25,a.f26,a.f27,a.f28,a.f29,a.f30,a.f31,a.f32,a.f33,a.f34,a.f35,a.f36,a.f37,a.f38,a.f39,a.f40,a.f41,a.f42,a.f43,a.f44,a.f45,a.f46,a.f47,a.f48,a.f49,a.f50,a.f51,a.f52,a.f53,a.f54,a.f55,a.f56,a.f57,a.f58,a.f59,a.f60,a.f61,a.f62,a.f63⟩:Snap)=a:=rfl
def rd_Snap(k:Snap->List Dt->List Dt):List Dt->List Dt:=DH fun z0 z1 z2 z3 z4 z5 z6 z7=>DH fun z8 z9 MF SE SF SG SI SJ=>DH fun SK SL SM SN SO SP z22 SQ=>DH fun SR z25 SS SU SW SX SY SZ=>DH fun S0 S2 S3 S4 S5 S6 S7 S8=>DH fun S9 Ta Tb Tc Td Te Tf Tg=>DH fun Th Ti Tj Tk Tl Tm z54 Tn=>DH fun To Tp Tq Ts Tt Tu Tv Tw=>DH fun z64 z65 z66 z67 z68 z69 z70 z71=>rdZ fun z72=>rdZ fun z73=>rdZ fun z74=>rdZ fun z75=>fun r=>k ⟨z0,z1,z2,z3,z4,z5,z6,z7,z8,z9,MF,SE,SF,SG,SI,SJ,SK,SL,SM,SN,SO,SP,z22,SQ,SR,z25,SS,SU,SW,SX,SY,SZ,S0,S2,S3,S4,S5,S6,S7,S8,S9,Ta,Tb,Tc,Td,Te,Tf,Tg,Th,Ti,Tj,Tk,Tl,Tm,z54,Tn,To,Tp,Tq,Ts,Tt,Tu,Tv,Tw,z64,z65,z66,z67,z68,z69,z70,z71,z72,z73,z74,z75⟩ r
def Snap.ok(a:Snap):Prop:=Ae .u64 a.r0=ZB/\Ae .u64 a.r1=ZB/\Ae .u64 a.r2=ZB/\Ae .u64 a.r3=ZB/\Ae .u64 a.r4=ZB/\Ae .u64 a.r5=ZB/\Ae .u64 a.r6=ZB/\Ae .u64 a.r7=ZB/\Ae .u64 a.r8=ZB/\Ae .u64 a.r9=ZB/\Ae .u64 a.r10=ZB/\Ae .i64 a.set=ZB/\Ae .u8 a.f0=ZB/\Ae .u8 a.f1=ZB/\Ae .u8 a.f2=ZB/\Ae .u8 a.f3=ZB/\Ae .u8 a.f4=ZB/\Ae .u8 a.f5=ZB/\Ae .u8 a.f6=ZB/\Ae .u8 a.f7=ZB/\Ae .u8 a.f8=ZB/\Ae .u8 a.f9=ZB/\Ae .u8 a.f10=ZB/\Ae .u8 a.f11=ZB/\Ae .u8 a.f12=ZB/\Ae .u8 a.f13=ZB/\Ae .u8 a.f14=ZB/\Ae .u8 a.f15=ZB/\Ae .u8 a.f16=ZB/\Ae .u8 a.f17=ZB/\Ae .u8 a.f18=ZB/\Ae .u8 a.f19=ZB/\Ae .u8 a.f20=ZB/\Ae .u8 a.f21=ZB/\Ae .u8 a.f22=ZB/\Ae .u8 a.f23=ZB/\Ae .u8 a.f24=ZB/\Ae .u8 a.f25=ZB/\Ae .u8 a.f26=ZB/\Ae .u8 a.f27=ZB/\Ae .u8 a.f28=ZB/\Ae .u8 a.f29=ZB/\Ae .u8 a.f30=ZB/\Ae .u8 a.f31=ZB/\Ae .u8 a.f32=ZB/\Ae .u8 a.f33=ZB/\Ae .u8 a.f34=ZB/\Ae .u8 a.f35=ZB/\Ae .u8 a.f36=ZB/\Ae .u8 a.f37=ZB/\Ae .u8 a.f38=ZB/\Ae .u8 a.f39=ZB/\Ae .u8 a.f40=ZB/\Ae .u8 a.f41=ZB/\Ae .u8 a.f42=ZB/\Ae .u8 a.f43=ZB/\Ae .u8 a.f44=ZB/\Ae .u8 a.f45=ZB/\Ae .u8 a.f46=ZB/\Ae .u8 a.f47=ZB/\Ae .u8 a.f48=ZB/\Ae .u8 a.f49=ZB/\Ae .u8 a.f50=ZB/\Ae .u8 a.f51=ZB/\Ae .u8 a.f52=ZB/\Ae .u8 a.f53=ZB/\Ae .u8 a.f54=ZB/\Ae .u8 a.f55=ZB/\Ae .u8 a.f56=ZB/\Ae .u8 a.f57=ZB/\Ae .u8 a.f58=ZB/\Ae .u8 a.f59=ZB/\Ae .u8 a.f60=ZB/\Ae .u8 a.f61=ZB/\Ae .u8 a.f62=ZB/\Ae .u8 a.f63=ZB
def kSnap:List CK:=[.int .u64,.int .u64,.int .u64,.int .u64,.int .u64,.int .u64,.int .u64,.int .u64,.int .u64,.int .u64,.int .u64,.int .i64,.int .u8,.int .u8,.int .u8,.int .u8,.int .u8,.int .u8,.int .u8,.int .u8,.int .u8,.int .u8,.int .u8,.int .u8,.int .u8,.int .u8,.int .u8,.int .u8,.int .u8,.int .u8,.int .u8,.int .u8,.int .u8,.int .u8,.int .u8,.int .u8,.int .u8,.int .u8,.int .u8,.int .u8,.int .u8,.int .u8,.int .u8,.int .u8,.int .u8,.int .u8,.int .u8,.int .u8,.int .u8,.int .u8,.int .u8,.int .u8,.int .u8,.int .u8,.int .u8,.int .u8,.int .u8,.int .u8,.int .u8,.int .u8,.int .u8,.int .u8,.int .u8,.int .u8,.int .u8,.int .u8,.int .u8,.int .u8,.int .u8,.int .u8,.int .u8,.int .u8,.int .u8,.int .u8,.int .u8,.int .u8]
def v_Snap(t:List VK):List VK:=.int .u64::.int .u64::.int .u64::.int .u64::.int .u64::.int .u64::.int .u64::.int .u64::.int .u64::.int .u64::.int .u64::.int .i64::.int .u8::.int .u8::.int .u8::.int .u8::.int .u8::.int .u8::.int .u8::.int .u8::.int .u8::.int .u8::.int .u8::.int .u8::.int .u8::.int .u8::.int .u8::.int .u8::.int .u8::.int .u8::.int .u8::.int .u8::.int .u8::.int .u8::.int .u8::.int .u8::.int .u8::.int .u8::.int .u8::.int .u8::.int .u8::.int .u8::.int .u8::.int .u8::.int .u8::.int .u8::.int .u8::.int .u8::.int .u8::.int .u8::.int .u8::.int .u8::.int .u8::.int .u8::.int .u8::.int .u8::.int .u8::.int .u8::.int .u8::.int .u8::.int .u8::.int .u8::.int .u8::.int .u8::.int .u8::.int .u8::.int .u8::.int .u8::.int .u8::.int .u8::.int .u8::.int .u8::.int .u8::.int .u8::.int .u8::.int .u8::t
def d_Snap(a:Snap)(t:List Dt):List Dt:=.z a.r0::.z a.r1::.z a.r2::.z a.r3::.z a.r4::.z a.r5::.z a.r6::.z a.r7::.z a.r8::.z a.r9::.z a.r10::.z a.set::.z a.f0::.z a.f1::.z a.f2::.z a.f3::.z a.f4::.z a.f5::.z a.f6::.z a.f7::.z a.f8::.z a.f9::.z a.f10::.z a.f11::.z a.f12::.z a.f13::.z a.f14::.z a.f15::.z a.f16::.z a.f17::.z a.f18::.z a.f19::.z a.f20::.z a.f21::.z a.f22::.z a.f23::.z a.f24::.z a.f25::.z a.f26::.z a.f27::.z a.f28::.z a.f29::.z a.f30::.z a.f31::.z a.f32::.z a.f33::.z a.f34::.z a.f35::.z a.f36::.z a.f37::.z a.f38::.z a.f39::.z a.f40::.z a.f41::.z a.f42::.z a.f43::.z a.f44::.z a.f45::.z a.f46::.z a.f47::.z a.f48::.z a.f49::.z a.f50::.z a.f51::.z a.f52::.z a.f53::.z a.f54::.z a.f55::.z a.f56::.z a.f57::.z a.f58::.z a.f59::.z a.f60::.z a.f61::.z a.f62::.z a.f63::t
def ab5{l:List VK}{p:List Dt->Prop}(h:∀a:Snap,Snap.ok a->aS l fun r=>p (d_Snap a r)):aS (v_Snap l) p:=fun x0 C6 x1 Do x2 Ge x3 Gf x4 LW x5 KL x6 LX x7 LY x8 LZ x9 QY J7 KK Ln Nt ME Nu Pn Nv Po Nw Pp Ny Pq Nz Pr NA Ps NB SC NC x20 ND x21 NE x22 NF x23 NG x24 NH x25 NI x26 NJ x27 NK x28 NL x29 NM x30 NN x31 NO x32 NP x33 NQ x34 NR x35 NS x36 NT x37 NU x38 NV x39 NW x40 NX x41 NY x42 NZ x43 N0 x44 N1 x45 N2 x46 N3 x47 N4 x48 N5 x49 N6 x50 N7 x51 N8 x52 N9 x53 Oa x54 Oc x55 Od x56 Oe x57 Of x58 Og x59 Oh x60 Oi x61 Oj x62 Ol x63 Om x64 gx64 x65 gx65 x66 gx66 x67 gx67 x68 gx68 x69 gx69 x70 gx70 x71 gx71 x72 gx72 x73 gx73 x74 gx74 x75 gx75=>h ⟨x0,x1,x2,x3,x4,x5,x6,x7,x8,x9,J7,Ln,ME,Pn,Po,Pp,Pq,Pr,Ps,SC,x20,x21,x22,x23,x24,x25,x26,x27,x28,x29,x30,x31,x32,x33,x34,x35,x36,x37,x38,x39,x40,x41,x42,x43,x44,x45,x46,x47,x48,x49,x50,x51,x52,x53,x54,x55,x56,x57,x58,x59,x60,x61,x62,x63,x64,x65,x66,x67,x68,x69,x70,x71,x72,x73,x74,x75⟩ ⟨C6,Do,Ge,Gf,LW,KL,LX,LY,LZ,QY,KK,Nt,Nu,Nv,Nw,Ny,Nz,NA,NB,NC,ND,NE,NF,NG,NH,NI,NJ,NK,NL,NM,NN,NO,NP,NQ,NR,NS,NT,NU,NV,NW,NX,NY,NZ,N0,N1,N2,N3,N4,N5,N6,N7,N8,N9,Oa,Oc,Od,Oe,Of,Og,Oh,Oi,Oj,Ol,Om,gx64,gx65,gx66,gx67,gx68,gx69,gx70,gx71,gx72,gx73,gx74,gx75⟩
def mC(k:Snap->List Dt->List Dt)(a:Snap)(t:List Dt):rd_Snap k (d_Snap a t)=k a t:=rfl
def cS:=aI @v_Snap.eq_1 (aI @d_Snap.eq_1 (aI @rd_Snap.eq_1 (@kSnap.eq_1)))
structure Fr where
 f0:Int
 f1:Int
 f2:Int
 f3:Int
 f4:Int
 f5:Int
 f6:Int
 f7:Int
 f8:Int
 f9:Int
 f10:Int
 f11:Int
 f12:Int
 f13:Int
 f14:Int
 f15:Int
 f16:Int
 f17:Int
 f18:Int
 f19:Int
 f20:Int
 f21:Int
 f22:Int
 f23:Int
 f24:Int
 f25:Int
 f26:Int
 f27:Int
 f28:Int
 f29:Int
 f30:Int
 f31:Int
 f32:Int
 f33:Int
 f34:Int
 f35:Int
 f36:Int
 f37:Int
 f38:Int
 f39:Int
 f40:Int
 f41:Int
 f42:Int
 f43:Int
 f44:Int
 f45:Int
 f46:Int
 f47:Int
 f48:Int
 f49:Int
 f50:Int
 f51:Int
 f52:Int
 f53:Int
 f54:Int
 f55:Int
 f56:Int
 f57:Int
 f58:Int
 f59:Int
 f60:Int
 f61:Int
 f62:Int
 f63:Int
def Fr.eta(a:Fr):(⟨a.f0,a.f1,a.f2,a.f3,a.f4,a.f5,a.f6,a.f7,a.f8,a.f9,a.f10,a.f11,a.f12,a.f13,a.f14,a.f15,a.f16,a.f17,a.f18,a.f19,a.f20,a.f21,a.f22,a.f23,a.f24,a.f25,a.f26,a.f27,a.f28,a.f29,a.f30,a.f31,a.f32,a.f33,a.f34,a.f35,a.f36,a.f37,a.f38,a.f39,a.f40,a.f41,a.f42,a.f43,a.f44,a.f45,a.f46,a.f47,a.f48,a.f49,a.f50,a.f51,a.f52,a.f53,a.f54,a.f55,a.f56,a.f57,a.f58,a.f59,a.f60,a.f61,a.f62,a.f63⟩:Fr)=a:=rfl
def rd_Fr(k:Fr->List Dt->List Dt):List Dt->List Dt:=DH fun z0 z1 z2 z3 z4 z5 z6 z7=>DH fun z8 z9 MF SE SF SG SI SJ=>DH fun SK SL SM SN SO SP z22 SQ=>DH fun SR z25 SS SU SW SX SY SZ=>DH fun S0 S2 S3 S4 S5 S6 S7 S8=>DH fun S9 Ta Tb Tc Td Te Tf Tg=>DH fun Th Ti Tj Tk Tl Tm z54 Tn=>DH fun To Tp Tq Ts Tt Tu Tv Tw=>fun r=>k ⟨z0,z1,z2,z3,z4,z5,z6,z7,z8,z9,MF,SE,SF,SG,SI,SJ,SK,SL,SM,SN,SO,SP,z22,SQ,SR,z25,SS,SU,SW,SX,SY,SZ,S0,S2,S3,S4,S5,S6,S7,S8,S9,Ta,Tb,Tc,Td,Te,Tf,Tg,Th,Ti,Tj,Tk,Tl,Tm,z54,Tn,To,Tp,Tq,Ts,Tt,Tu,Tv,Tw⟩ r
def Fr.ok(a:Fr):Prop:=Ae .u8 a.f0=ZB/\Ae .u8 a.f1=ZB/\Ae .u8 a.f2=ZB/\Ae .u8 a.f3=ZB/\Ae .u8 a.f4=ZB/\Ae .u8 a.f5=ZB/\Ae .u8 a.f6=ZB/\Ae .u8 a.f7=ZB/\Ae .u8 a.f8=ZB/\Ae .u8 a.f9=ZB/\Ae .u8 a.f10=ZB/\Ae .u8 a.f11=ZB/\Ae .u8 a.f12=ZB/\Ae .u8 a.f13=ZB/\Ae .u8 a.f14=ZB/\Ae .u8 a.f15=ZB/\Ae .u8 a.f16=ZB/\Ae .u8 a.f17=ZB/\Ae .u8 a.f18=ZB/\Ae .u8 a.f19=ZB/\Ae .u8 a.f20=ZB/\Ae .u8 a.f21=ZB/\Ae .u8 a.f22=ZB/\Ae .u8 a.f23=ZB/\Ae .u8 a.f24=ZB/\Ae .u8 a.f25=ZB/\Ae .u8 a.f26=ZB/\Ae .u8 a.f27=ZB/\Ae .u8 a.f28=ZB/\Ae .u8 a.f29=ZB/\Ae .u8 a.f30=ZB/\Ae .u8 a.f31=ZB/\Ae .u8 a.f32=ZB/\Ae .u8 a.f33=ZB/\Ae .u8 a.f34=ZB/\Ae .u8 a.f35=ZB/\Ae .u8 a.f36=ZB/\Ae .u8 a.f37=ZB/\Ae .u8 a.f38=ZB/\Ae .u8 a.f39=ZB/\Ae .u8 a.f40=ZB/\Ae .u8 a.f41=ZB/\Ae .u8 a.f42=ZB/\Ae .u8 a.f43=ZB/\Ae .u8 a.f44=ZB/\Ae .u8 a.f45=ZB/\Ae .u8 a.f46=ZB/\Ae .u8 a.f47=ZB/\Ae .u8 a.f48=ZB/\Ae .u8 a.f49=ZB/\Ae .u8 a.f50=ZB/\Ae .u8 a.f51=ZB/\Ae .u8 a.f52=ZB/\Ae .u8 a.f53=ZB/\Ae .u8 a.f54=ZB/\Ae .u8 a.f55=ZB/\Ae .u8 a.f56=ZB/\Ae .u8 a.f57=ZB/\Ae .u8 a.f58=ZB/\Ae .u8 a.f59=ZB/\Ae .u8 a.f60=ZB/\Ae .u8 a.f61=ZB/\Ae .u8 a.f62=ZB/\Ae .u8 a.f63=ZB
def kFr:List CK:=[.int .u8,.int .u8,.int .u8,.int .u8,.int .u8,.int .u8,.int .u8,.int .u8,.int .u8,.int .u8,.int .u8,.int .u8,.int .u8,.int .u8,.int .u8,.int .u8,.int .u8,.int .u8,.int .u8,.int .u8,.int .u8,.int .u8,.int .u8,.int .u8,.int .u8,.int .u8,.int .u8,.int .u8,.int .u8,.int .u8,.int .u8,.int .u8,.int .u8,.int .u8,.int .u8,.int .u8,.int .u8,.int .u8,.int .u8,.int .u8,.int .u8,.int .u8,.int .u8,.int .u8,.int .u8,.int .u8,.int .u8,.int .u8,.int .u8,.int .u8,.int .u8,.int .u8,.int .u8,.int .u8,.int .u8,.int .u8,.int .u8,.int .u8,.int .u8,.int .u8,.int .u8,.int .u8,.int .u8,.int .u8]
def v_Fr(t:List VK):List VK:=.int .u8::.int .u8::.int .u8::.int .u8::.int .u8::.int .u8::.int .u8::.int .u8::.int .u8::.int .u8::.int .u8::.int .u8::.int .u8::.int .u8::.int .u8::.int .u8::.int .u8::.int .u8::.int .u8::.int .u8::.int .u8::.int .u8::.int .u8::.int .u8::.int .u8::.int .u8::.int .u8::.int .u8::.int .u8::.int .u8::.int .u8::.int .u8::.int .u8::.int .u8::.int .u8::.int .u8::.int .u8::.int .u8::.int .u8::.int .u8::.int .u8::.int .u8::.int .u8::.int .u8::.int .u8::.int .u8::.int .u8::.int .u8::.int .u8::.int .u8::.int .u8::.int .u8::.int .u8::.int .u8::.int .u8::.int .u8::.int .u8::.int .u8::.int .u8::.int .u8::.int .u8::.int .u8::.int .u8::.int .u8::t
def d_Fr(a:Fr)(t:List Dt):List Dt:=.z a.f0::.z a.f1::.z a.f2::.z a.f3::.z a.f4::.z a.f5::.z a.f6::.z a.f7::.z a.f8::.z a.f9::.z a.f10::.z a.f11::.z a.f12::.z a.f13::.z a.f14::.z a.f15::.z a.f16::.z a.f17::.z a.f18::.z a.f19::.z a.f20::.z a.f21::.z a.f22::.z a.f23::.z a.f24::.z a.f25::.z a.f26::.z a.f27::.z a.f28::.z a.f29::.z a.f30::.z a.f31::.z a.f32::.z a.f33::.z a.f34::.z a.f35::.z a.f36::.z a.f37::.z a.f38::.z a.f39::.z a.f40::.z a.f41::.z a.f42::.z a.f43::.z a.f44::.z a.f45::.z a.f46::.z a.f47::.z a.f48::.z a.f49::.z a.f50::.z a.f51::.z a.f52::.z a.f53::.z a.f54::.z a.f55::.z a.f56::.z a.f57::.z a.f58::.z a.f59::.z a.f60::.z a.f61::.z a.f62::.z a.f63::t
def oy{l:List VK}{p:List Dt->Prop}(h:∀a:Fr,Fr.ok a->aS l fun r=>p (d_Fr a r)):aS (v_Fr l) p:=fun x0 C6 x1 Do x2 Ge x3 Gf x4 LW x5 KL x6 LX x7 LY x8 LZ x9 QY J7 KK Ln Nt ME Nu Pn Nv Po Nw Pp Ny Pq Nz Pr NA Ps NB SC NC x20 ND x21 NE x22 NF x23 NG x24 NH x25 NI x26 NJ x27 NK x28 NL x29 NM x30 NN x31 NO x32 NP x33 NQ x34 NR x35 NS x36 NT x37 NU x38 NV x39 NW x40 NX x41 NY x42 NZ x43 N0 x44 N1 x45 N2 x46 N3 x47 N4 x48 N5 x49 N6 x50 N7 x51 N8 x52 N9 x53 Oa x54 Oc x55 Od x56 Oe x57 Of x58 Og x59 Oh x60 Oi x61 Oj x62 Ol x63 Om=>h ⟨x0,x1,x2,x3,x4,x5,x6,x7,x8,x9,J7,Ln,ME,Pn,Po,Pp,Pq,Pr,Ps,SC,x20,x21,x22,x23,x24,x25,x26,x27,x28,x29,x30,x31,x32,x33,x34,x35,x36,x37,x38,x39,x40,x41,x42,x43,x44,x45,x46,x47,x48,x49,x50,x51,x52,x53,x54,x55,x56,x57,x58,x59,x60,x61,x62,x63⟩ ⟨C6,Do,Ge,Gf,LW,KL,LX,LY,LZ,QY,KK,Nt,Nu,Nv,Nw,Ny,Nz,NA,NB,NC,ND,NE,NF,NG,NH,NI,NJ,NK,NL,NM,NN,NO,NP,NQ,NR,NS,NT,NU,NV,NW,NX,NY,NZ,N0,N1,N2,N3,N4,N5,N6,N7,N8,N9,Oa,Oc,Od,Oe,Of,Og,Oh,Oi,Oj,Ol,Om⟩
def jY(k:Fr->List Dt->List Dt)(a:Fr)(t:List Dt):rd_Fr k (d_Fr a t)=k a t:=rfl
def B8:=aI @v_Fr.eq_1 (aI @d_Fr.eq_1 (aI @rd_Fr.eq_1 (@kFr.eq_1)))
def bK:=aI Fr.eta (aI Kn.eta (aI Pi.eta (aI Pu.eta (aI Rg.eta (aI Sc.eta (aI Snap.eta (aI Sta.eta (aI Ty.eta (aI Sc.eta_r (aI Sc.eta_k (aI Sc.eta_2 (Ty.eta_s))))))))))))
def Ev:List C:=[.int .u64 (.p 0),.int .u64 (.p 0),.int .i64 (.p 0),.int .i64 (.p 0),.int .u64 (.p 0),.int .u64 (.p 0)]
def lx:Tryz.prog.eqGuardType Tryz.prog.depth 50=ZC:=by kernel_rfl
def adv:Tryz.prog.cellsOf 50=6:=by kernel_rfl
def adA:Tryz.prog.cellsOf 46=4:=by kernel_rfl
def ady:Tryz.prog.cellsOf 48=2:=by kernel_rfl
def adE:Tryz.prog.cellsOf 39=1:=by kernel_rfl
def aiP:Tryz.prog.cellsOf 2=1:=by kernel_rfl
def au3(vs:List Value)(hv:aL vs Ev):Tryz.prog.keyLits 6 50 vs=ZA (cV vs):=by
 obtain⟨x0,_,rfl,g0,hv⟩:=ah hv;obtain⟨x1,_,rfl,g1,hv⟩:=ah hv;obtain⟨x2,_,rfl,g2,hv⟩:=ah hv;obtain⟨x3,_,rfl,g3,hv⟩:=ah hv;obtain⟨x4,_,rfl,g4,hv⟩:=ah hv;obtain⟨x5,_,rfl,g5,hv⟩:=ah hv;obtain rfl:=bT hv;simp[Program.keyLits,underlying50,underlying46,underlying48,underlying39,underlying2,adv,adA,ady,adE,aiP,TS,cV,g0,g1,g2,g3,g4,g5];split
 .simp only[Option.bind_some,Function.comp_apply];split
  .rfl
  next h=>exact ai ST h
 next h=>exact ai ST h
def avT(vs:List Value)(hv:aL vs Ev):(Value.agg vs.toArray).formed ZF 50=ZB:=by obtain⟨x0,_,rfl,g0,hv⟩:=ah hv;obtain⟨x1,_,rfl,g1,hv⟩:=ah hv;obtain⟨x2,_,rfl,g2,hv⟩:=ah hv;obtain⟨x3,_,rfl,g3,hv⟩:=ah hv;obtain⟨x4,_,rfl,g4,hv⟩:=ah hv;obtain⟨x5,_,rfl,g5,hv⟩:=ah hv;obtain rfl:=bT hv;kernel_rfl
def ru(vs us:List Value)(hv:aL vs Ev)(hu:aL us Ev)(w:World):(Op.equal 50 (.agg vs.toArray) (.agg us.toArray)).run ZF w=.ok (Dh vs us) w:=iI (by kernel_rfl) avT 6 au3 vs us hv hu w
def Dw:List C:=[.int .i8 (.p 0),.int .u64 (.p 0),.int .u64 (.p 0),.int .i64 (.p 0),.int .i64 (.p 0),.int .u64 (.p 0),.int .u64 (.p 0),.int .i64 (.p 0),.int .i64 (.p 0)]
def lw:Tryz.prog.eqGuardType Tryz.prog.depth 52=ZC:=by kernel_rfl
def adt:Tryz.prog.cellsOf 52=9:=by kernel_rfl
def adG:Tryz.prog.cellsOf 38=1:=by kernel_rfl
def adu:Tryz.prog.cellsOf 50=6:=by kernel_rfl
def adz:Tryz.prog.cellsOf 46=4:=by kernel_rfl
def adx:Tryz.prog.cellsOf 48=2:=by kernel_rfl
def adD:Tryz.prog.cellsOf 39=1:=by kernel_rfl
def aiO:Tryz.prog.cellsOf 2=1:=by kernel_rfl
def aiN:Tryz.prog.cellsOf 3=1:=by kernel_rfl
def aqj(vs:List Value)(hv:aL vs Dw):Tryz.prog.keyLits 6 52 vs=ZA (cV vs):=by
 obtain⟨x0,_,rfl,g0,hv⟩:=ah hv;obtain⟨x1,_,rfl,g1,hv⟩:=ah hv;obtain⟨x2,_,rfl,g2,hv⟩:=ah hv;obtain⟨x3,_,rfl,g3,hv⟩:=ah hv;obtain⟨x4,_,rfl,g4,hv⟩:=ah hv;obtain⟨x5,_,rfl,g5,hv⟩:=ah hv;obtain⟨x6,_,rfl,g6,hv⟩:=ah hv;obtain⟨x7,_,rfl,g7,hv⟩:=ah hv;obtain⟨x8,_,rfl,g8,hv⟩:=ah hv;obtain rfl:=bT hv;simp[Program.keyLits,underlying52,underlying38,underlying50,underlying46,underlying48,underlying39,underlying2,underlying3,adt,adG,adu,adz,adx,adD,aiO,aiN,TS,cV,g0,g1,g2,g3,g4,g5,g6,g7,g8]
 repeat (rw[ae];rotate_left;· decide)
 rfl
def avS(vs:List Value)(hv:aL vs Dw):(Value.agg vs.toArray).formed ZF 52=ZB:=by obtain⟨x0,_,rfl,g0,hv⟩:=ah hv;obtain⟨x1,_,rfl,g1,hv⟩:=ah hv;obtain⟨x2,_,rfl,g2,hv⟩:=ah hv;obtain⟨x3,_,rfl,g3,hv⟩:=ah hv;obtain⟨x4,_,rfl,g4,hv⟩:=ah hv;obtain⟨x5,_,rfl,g5,hv⟩:=ah hv;obtain⟨x6,_,rfl,g6,hv⟩:=ah hv;obtain⟨x7,_,rfl,g7,hv⟩:=ah hv;obtain⟨x8,_,rfl,g8,hv⟩:=ah hv;obtain rfl:=bT hv;kernel_rfl
def rt(vs us:List Value)(hv:aL vs Dw)(hu:aL us Dw)(w:World):(Op.equal 52 (.agg vs.toArray) (.agg us.toArray)).run ZF w=.ok (Dh vs us) w:=iI (by kernel_rfl) avS 6 aqj vs us hv hu w
def dq{q:Prop}(k:q2)(h:p->q=q2:=by intro e;(try simp only[e,bK,-eq_self]);rfl):p->q:=fun e=>(h e).symm▸k
def aoP:List (Nat×TI):=[(2,CC),
 (3,CZ),
 (38,fY),
 (39,fe),
 (46,ic),
 (48,jr),
 (50,eU),
 (52,rh),
 (53,rb),
 (54,ra),
 (56,vo),
 (140,⟨ZB,4,(zN 4 1111),[],ZA (4,39),ZE,ZC,ZC,ZE,32,ZC,ZE,ZC,0⟩)]
def jH:∀t i,(t,i)∈aoP->TIok ZF t i:=bl (DS (z:=Ev) ⟨ru,lx⟩<|DS (z:=Dw) ⟨rt,lw⟩ B1) B1 (by kernel_rfl)
def c_tscal:Cd:=⟨39,[],[.agg kTy],fun _=>d_Ty tscal [],T0⟩
def aaU:Tr:=
(.call 0 (kSc) .nil 0
(.u (.cons (.p 1) (.vs 0 6 (.cons (.p 0) (.cons (.p 0) .nil))))))
def qu:c_tscal.Ok ZF:=
 AU aaU [] jH (Am rZ AI) func39<|fun hp U g=>by
 simp only[aaU,c_vall,c_tscal,AE,AP,Ai,ZH,ZD,-eq_self,bK];refine dq ?_
 .rfl
def c_ttok:Cd:=⟨63,[.agg kTy],[.one .bool],rd_Ty fun t _=>[.z (AD (Bh t))],T0⟩
def an9:Tr:=(.br (.eq (.w 1) (.p 0))
(.br (.eq (.w 2) (.p 0))
(.br (.eq (.w 3) (.p 0))
(.br (.eq (.w 4) (.p 0))
(.br (.eq (.w 5) (.p 0))
(.br (.eq (.w 6) (.p 0))
(.br (.lt (.w 8) (.w 7))
 zlF
(.br (.lt (.w 7) (.p (-1048576)))
 zlF
(.u (.j (.not (.lt (.p 1048576) (.w 8))) .nil))))
 zlF)
 zlF)
 zlF)
 zlF)
 zlF)
 zlF)
def afX:Tr:=
(.br (.eq (.w 0) (.p 0))
(.u (.j (.and (.eq (.w 0) (.p 0)) (.and (.eq (.w 1) (.p 0)) (.and (.eq (.w 2) (.p 0)) (.and (.eq (.w 3) (.p 0)) (.and (.eq (.w 4) (.p 0)) (.and (.eq (.w 5) (.p 0)) (.and (.eq (.w 6) (.p 0)) (.and (.eq (.w 7) (.p 0)) (.and (.eq (.w 8) (.p 0)) (.tt ZB)))))))))) .nil))
(.br (.eq (.w 0) (.p 1))
(.br (.eq (.w 7) (.p 0))
(.br (.eq (.w 8) (.p 0))
(.call 0 [.bool] (.vs 1 6 .nil) 9
(.u (.j (.s 9) .nil)))
 zlF)
 zlF)
(.br (.eq (.w 0) (.p 2))
 an9
(.br (.eq (.w 0) (.p 3))
 an9
 zlF))))
def W9:c_ttok.Ok ZF:=
 AU afX (v_Ty []) jH (Am ox AI) func63<|bL fun t ht hp U g=>by
 simp only[AE,AP,AA,ZD]at g;simp only[afX,an9,c_vmay,c_ttok,AE,AP,Ai,ZH,ZD,-eq_self,bK,g]
 .repeat' first|apply aI<;>intro c|refine dq ?_|exact Id
def c_tmay:Cd:=⟨22,[.agg kSta],[.one .bool],rd_Sta fun s _=>[.z (AD (Az s))],T0⟩
def afY:Tr:=
(.call 0 [.bool] (.vs 0 9 .nil) 171
(.br (.s 171)
(.call 0 [.bool] (.vs 9 9 .nil) 172
(.br (.s 172)
(.call 0 [.bool] (.vs 18 9 .nil) 173
(.br (.s 173)
(.call 0 [.bool] (.vs 27 9 .nil) 174
(.br (.s 174)
(.call 0 [.bool] (.vs 36 9 .nil) 175
(.br (.s 175)
(.call 0 [.bool] (.vs 45 9 .nil) 176
(.br (.s 176)
(.call 0 [.bool] (.vs 54 9 .nil) 177
(.br (.s 177)
(.call 0 [.bool] (.vs 63 9 .nil) 178
(.br (.s 178)
(.call 0 [.bool] (.vs 72 9 .nil) 179
(.br (.s 179)
(.call 0 [.bool] (.vs 81 9 .nil) 180
(.br (.s 180)
(.call 0 [.bool] (.vs 90 9 .nil) 181
(.br (.s 181)
(.br (.eq (.w 99) (.p 0))
 zlF
(.call 0 [.bool] (.vs 99 9 .nil) 182
(.br (.s 182)
(.br (.eq (.w 108) (.p 0))
 zlF
(.call 0 [.bool] (.vs 108 9 .nil) 183
(.br (.s 183)
(.br (.eq (.w 117) (.p 0))
 zlF
(.call 0 [.bool] (.vs 117 9 .nil) 184
(.br (.s 184)
(.br (.eq (.w 126) (.p 0))
 zlF
(.call 0 [.bool] (.vs 126 9 .nil) 185
(.br (.s 185)
(.br (.eq (.w 135) (.p 0))
 zlF
(.call 0 [.bool] (.vs 135 9 .nil) 186
(.br (.s 186)
(.br (.eq (.w 144) (.p 0))
 zlF
(.call 0 [.bool] (.vs 144 9 .nil) 187
(.br (.s 187)
(.br (.eq (.w 153) (.p 0))
 zlF
(.call 0 [.bool] (.vs 153 9 .nil) 188
(.br (.s 188)
(.br (.eq (.w 162) (.p 0))
 zlF
(.call 0 [.bool] (.vs 162 9 .nil) 189
(.br (.s 189)
 zlT
 zlF)))
 zlF)))
 zlF)))
 zlF)))
 zlF)))
 zlF)))
 zlF)))
 zlF)))
 zlF))
 zlF))
 zlF))
 zlF))
 zlF))
 zlF))
 zlF))
 zlF))
 zlF))
 zlF))
 zlF))
def TQ:c_tmay.Ok ZF:=
 AU afY (v_Sta []) jH (Am W9 AI) func22<|dX fun s hs hp U g=>by
 simp only[c_tmay,bY,fz,rdZ,rdB,rdL];simp only[cd,AE,AA,ZD]at g;simp(maxSteps:=10000000) only[afY,Kx,c_ttok,rdZ,rdB,rdL,c_tmay,cd,AE,Ai,ZH,ZD,-eq_self,bK,g];refine dq ?_
 .repeat' first|apply aI<;>intro c|refine dq ?_|exact Os
def c_thold:Cd:=⟨23,[.agg kTy,.one (.int .u64)],[.one .bool],rd_Ty fun t=>rdZ fun v _=>[.z (AD (aU t v))],T0⟩
def an7:E:=(.F .i64 (.f .sub .u64 (.w 9) (.p 3145728)))
def an8:E:=(.F .i64 (.f .sub .u64 (.w 9) (.p 2097152)))
def aaX:Tr:=
(.call 0 [.bool] (.vs 0 9 .nil) 10
(.br (.s 10)
(.br (.eq (.w 0) (.p 0))
 zlT
(.br (.eq (.w 0) (.p 1))
(.call 1 [.bool] (.vs 1 6 (.cons (.w 9) .nil)) 11
(.u (.j (.s 11) .nil)))
(.br (.eq (.w 0) (.p 2))
(.br (.lt an8 (.w 7))
 zlF
(.u (.j (.not (.lt (.w 8) an8)) .nil)))
(.br (.eq (.w 0) (.p 3))
(.br (.lt an7 (.w 7))
 zlF
(.u (.j (.not (.lt (.w 8) an7)) .nil)))
.panic))))
 zlF))
def aqz:c_thold.Ok ZF:=
 AU aaX (v_Ty [.int .u64]) jH (Am W9<|Am as2 AI) func23<|bL fun t ht=>fun v hv hp U g=>by
 simp only[AE,AP,AA,ZD]at g;simp only[aaX,an8,an7,c_ttok,c_vhas,c_thold,AE,AP,Ai,ZH,ZD,-eq_self,bK,g];refine dq ?_;apply aI<;>intro c0;apply aI<;>intro c1
 .rw[yf c0 (A4 c1)];try rfl
 apply aI<;>intro c2;refine dq ?_
 .rw[nq c0 (A4 c2)];try rfl
 apply aI<;>intro c3;apply aI<;>intro c4
 .simp only[Ac]at c4 ⊢;rw[tB c0 (A4 c3),uy c4];try rfl
 .simp only[Ac]at c4 ⊢;rw[tB c0 (A4 c3),oS c4];try rfl
 apply aI<;>intro c5;apply aI<;>intro c6
 .simp only[Ac]at c6 ⊢;rw[tA c0 (A4 c5),uy c6];try rfl
 .simp only[Ac]at c6 ⊢;rw[tA c0 (A4 c5),oS c6];try rfl
 .exact ai (fX c0) (by simp_all)
 .rw[aal c0]
def c_tfirst:Cd:=⟨13,[],[.agg kSta],fun _=>d_Sta jN [],T0⟩
def wj:Tr:=
(.call 0 (kSc) (.cons (.p 0) .nil) 0
(.u (.zs [0,0,0,0,0,0,0,0,0,2,0,0,0,0,0,0,0,0,0,0,0,0,0,0,0,0,0,0,0,0,0,0,0,0,0,0,0,0,0,0,0,0,0,0,0,0,0,0,0,0,0,0,0,0,0,0,0,0,0,0,0,0,0,0,0,0,0,0,0,0,0,0,0,0,0,0,0,0,0,0,0,0,0,0,0,0,0,0,0,0,3,0,0,0,0,0,0,64,64,1] (.vs 0 6 (.zs [0,0,1] (.vs 0 6 (.zs [0,0,1] (.vs 0 6 (.zs [0,0,1] (.vs 0 6 (.zs [0,0,1] (.vs 0 6 (.zs [0,0,1] (.vs 0 6 (.zs [0,0,1] (.vs 0 6 (.zs [0,0,1] (.vs 0 6 (.cons (.p 0) (.cons (.p 0) .nil))))))))))))))))))))
def ak7:c_tfirst.Ok ZF:=
 AU wj [] jH (Am TP AI) func13<|fun hp U g=>by
 simp only[wj,c_vone,c_tfirst,cd,AE,AP,Ai,ZH,ZD,-eq_self,bK];refine dq ?_
 .rfl
def ajI{s:Sta}{P:Ty->Prop}(h0:P s.r0)(h1:P s.r1)(h2:P s.r2)(h3:P s.r3)(h4:P s.r4)(h5:P s.r5)(h6:P s.r6)(h7:P s.r7)(h8:P s.r8)(h9:P s.r9)(JH:P s.r10)(b0:0<=d)(b1:d<=10):P (Ao s d):=by
 have h:d=0\/d=1\/d=2\/d=3\/d=4\/d=5\/d=6\/d=7\/d=8\/d=9\/d=10:=Fn;rcases h with rfl|rfl|rfl|rfl|rfl|rfl|rfl|rfl|rfl|rfl|rfl
 .exact h0
 .exact h1
 .exact h2
 .exact h3
 .exact h4
 .exact h5
 .exact h6
 .exact h7
 .exact h8
 .exact h9
 .exact JH
def arQ(s:Sta)(d:Int):(Ao s d).k=(io s).getD d.toNat 0:=rfl
def xX{s:Sta}(h:fC s R=ZC)(b0:0<=d)(b1:d<=10)(hR:R.testBit d.toNat=ZB):(Ao s d).k≠0:=by unfold fC at h;rw[List.any_eq_false]at h;have q:=h d.toNat (List.mem_range.2 Fn);rw[hR,Bool.true_and]at q;rw[arQ];simpa using q
def abX{x:Ins}(h:A2 x=ZB)(hk:x.k=0):Bv x.op x.w=ZB:=by unfold A2 at h;rw[ne,ne]at h;have q:=h.2.1;unfold cA at q;rw[ae hk]at q;unfold Bv fG;simp only[ne,fy,aE,cQ]at q ⊢;omega
def ars{x:Ins}{s:Sta}(hb:x.br=ZB)(h:aU (Ao s x.s) q=ZB):aU (cy x s) q=ZB:=by unfold cy;rw[ae hb];exact h
def art{x:Ins}{s:Sta}(hb:x.br=ZC):aU (cy x s) (ZG .u64 x.imm)=ZB:=by unfold cy;rw[aa (by rw[hb];simp)];exact vr YC
section
variable {p:Prog}{i:Int}{s:Sta}{a q:Int}
end
def Bp(T:LL)(i:Int)(o:Nat):Ty:=⟨gt T i o,gt T i (o+1),gt T i (o+2),gt T i (o+3),gt T i (o+4),gt T i (o+5),gt T i (o+6),gt T i (o+7),gt T i (o+8)⟩
def aq(T:LL)(i:Int):Sta:=⟨Bp T i 1,Bp T i 10,Bp T i 19,Bp T i 28,Bp T i 37,Bp T i 46,Bp T i 55,Bp T i 64,Bp T i 73,Bp T i 82,Bp T i 91,Bp T i 100,Bp T i 109,Bp T i 118,Bp T i 127,Bp T i 136,Bp T i 145,Bp T i 154,Bp T i 163⟩
def Il(t:Ty)(x:Ins):Int:=Ac .add .i64 t.lo x.off
def Ik(t:Ty)(x:Ins):Int:=Ac .add .i64 t.hi x.off
def Sx(x:Ins)(s:Sta)(t:Ty):Sta×Int:=
 if t.k=3 then(BX (BX s x.d (DQ (Db x.sz))) x.d (oG (BX s x.d (DQ (Db x.sz))) (Il t x) (Ik t x) x.sz),pF (BX s x.d (DQ (Db x.sz))) (Il t x) (Ik t x) x.sz)
 else(BX s x.d (DQ (Db x.sz)),0)
def SA(x:Ins)(s:Sta)(t:Ty):Sta×Int:=if t.k=3 then(jd s (Il t x) (Ik t x) x.sz (Ao s x.s),nv s (Il t x) (Ik t x) x.sz (Ao s x.s))else(s,0)
def Qx(s:Sta):Sta:={s with r0:=tscal,r1:=tnil,r2:=tnil,r3:=tnil,r4:=tnil,r5:=tnil}
def BD(p:Prog)(x:Ins)(s:Sta):Sta×Int:=
 if x.k=0 then(BX s x.d (Dv x (Ao s x.d) (cy x s)),0)
 else if x.k=1 then(if aG p.ctx (Ao s x.s) x.off x.sz=ZB then Sx x s (Ao s x.s)else(s,111))
 else if x.k=2 then(if aG p.ctx (Ao s x.d) x.off x.sz=ZB then SA x s (Ao s x.d)else(s,111))
 else if x.k=5 then(Qx s,0)
 else(s,0)
def C0(s:Sta)(d:Int)(a b:Ty)(So:Bool)(go cc:Int)(Sd:Bool):List (Int×Sta):=if(So&&Sd)=ZB then(if DI cc a.s b.s=ZB then[(go,BX s d (DQ (Eu cc a.s b.s)))]else[])else[(go,s)]
def iw(x:Ins)(s:Sta)(b:Ty):Bool:=x.k==3&&((Ao s x.d).k==1&&b.k==1)
def gF(i:Int)(x:Ins)(s:Sta)(b:Ty):List (Int×Sta):=if x.k=4\/x.k=6 then[]else C0 s x.d (Ao s x.d) b (iw x s b) (Ac .add .i64 i 1) (iu x.op) (gD x.op)
def ib(i:Int)(x:Ins)(s:Sta)(b:Ty):List (Int×Sta):=if(AO i x).2=ZB then C0 s x.d (Ao s x.d) b (iw x s b) (AO i x).1 x.op ZB else[]
def bD(p:Prog)(i:Int)(s:Sta):List (Int×Sta)×Int:=
 if fC s (Dy (ab p.l i)).toNat=ZB then([],110)
 else if(BD p (ab p.l i) s).2=0 then(gF i (ab p.l i) (BD p (ab p.l i) s).1 (cy (ab p.l i) s)++ib i (ab p.l i) (BD p (ab p.l i) s).1 (cy (ab p.l i) s),0)
 else([],(BD p (ab p.l i) s).2)
structure VR where
 w:Int
 T:LL
 g:LL
def Hn(w n:Int):Int:=Ac .or .u64 w (Ac .shl .u64 1 n)
def Ju(r:VR)(q:Int×Sta):Sta:=iO (decide (8<gt r.g q.1 0)) (aq r.T q.1) q.2
def AQ(r:VR)(q:Int×Sta):VR:=
 if gt r.T q.1 0=1 then(if BI (Ju r q)=BI (aq r.T q.1)then r else⟨Hn r.w q.1,r.T.set q.1.toNat (1::BI (Ju r q)),st r.g q.1 0 (Ac .add .i64 (gt r.g q.1 0) 1)⟩)
 else⟨Hn r.w q.1,r.T.set q.1.toNat (1::BI q.2),r.g⟩
abbrev Nf:=LL×LL×Int×Int
def me(p:Prog)(T:LL):Nf:=
 ((List.range p.l.length).map fun(k:Nat)=>[AD (gt T k 0==1)],(List.range p.l.length).map fun(k:Nat)=>if gt T k 0=1 then BI (aq T k)else ZM 171 0,0,0)
def jp(r:VR):VR:=⟨Ac .and .u64 r.w (Ac .sub .u64 r.w 1),r.T,r.g⟩
def jq(p:Prog):Nat->Int->VR->Nf
 |0,last,r=>if r.w=0 then me p r.T else([],[],last,112)
 |n+1,last,r=>if r.w=0 then me p r.T else
   if(bD p (CO r.w) (aq r.T (CO r.w))).2=0 then jq p n (CO r.w) ((bD p (CO r.w) (aq r.T (CO r.w))).1.foldl AQ (jp r))
   else([],[],CO r.w,(bD p (CO r.w) (aq r.T (CO r.w))).2)
def vini:VR:=⟨1,(ZM 64 (ZM 172 0)).set 0 (1::BI jN),ZM 64 [0]⟩
def AC(p:Prog):Nf:=if(aY p).2=0 then jq p 2000 0 vini else([],[],(aY p).1,(aY p).2)
def iy{p:Prog}{n:Nat}{last:Int}{r:VR}(h:r.w=0):jq p n last r=me p r.T:=by cases n<;>(unfold jq;rw[ae h])
def px{p:Prog}{n:Nat}{last:Int}{r:VR}(h:r.w≠0)(he:(bD p (CO r.w) (aq r.T (CO r.w))).2≠0):jq p (n+1) last r=([],[],CO r.w,(bD p (CO r.w) (aq r.T (CO r.w))).2):=by rw[jq,aa h,aa he]
def nn{p:Prog}{n:Nat}{last:Int}{r:VR}(h:r.w≠0)(he:(bD p (CO r.w) (aq r.T (CO r.w))).2=0):jq p (n+1) last r=jq p n (CO r.w) ((bD p (CO r.w) (aq r.T (CO r.w))).1.foldl AQ (jp r)):=by rw[jq,aa h,ae he]
def lD{p:Prog}{last:Int}{r:VR}(h:r.w≠0):jq p 0 last r=([],[],last,112):=by rw[jq,aa h]
def gV{T':LL}{n:Nat}(h:T[n]? =T'[n]?)(c:Nat):gt T n c=gt T' n c:=by unfold gt;rw[cY];have e:∀T:LL,T.getD n []=(T[n]?).getD []:=fun T=>bZ;rw[e,e,h]
def dT{T':LL}{n:Nat}(h:T[n]? =T'[n]?):aq T n=aq T' n:=by simp only[aq,Bp,gV h]
def Qu{w:Int}(h0:0<=w)(h1:w<=18446744073709551615){i:Nat}(hi:i<64):tb w i=w.toNat.testBit i:=by obtain⟨n,rfl⟩:=cj h0;unfold tb;rw[BitVec.ofInt_natCast,BitVec.getLsbD_ofNat,cY];simp[hi]
def aiM{x:Nat}(h0:0<x)(h:x<2 ^ 64):Lib.ctz 64 x<64/\x.testBit (Lib.ctz 64 x)=ZB/\∀j,(x &&& (x-1)).testBit j=(x.testBit j &&!(j==Lib.ctz 64 x)):=by
 obtain⟨m,hm,hk⟩:=Lib.ctzFrom_spec 64 x h0 h;have e:Lib.ctz 64 x=Lib.ctzFrom 64 x:=aa Fn;rw[e];generalize Lib.ctzFrom 64 x=c at hm hk;have hp:0<2 ^ c:=Nat.two_pow_pos c;have h1:x=2 ^ c*(2*m+1)+0:=Fn;have h2:x-1=2 ^ c*(2*m)+(2 ^ c-1):=by rw[hm,Nat.mul_succ];omega
 have t1:∀j,x.testBit j=if j<c then ZC else(2*m+1).testBit (j-c):=fun j=>by
  rw[h1,Nat.testBit_two_pow_mul_add _ hp];split
  .simp
  .rfl
 have t2:∀j,(x-1).testBit j=if j<c then(2 ^ c-1).testBit j else(2*m).testBit (j-c):=fun j=>by rw[h2,Nat.testBit_two_pow_mul_add _ Fn]
 have b0:(2*m+1).testBit 0=ZB:=by simp
 have b1:(2*m).testBit 0=ZC:=by simp
 have bs:∀d,(2*m+1).testBit (d+1)=m.testBit d/\(2*m).testBit (d+1)=m.testBit d:=fun d=>by rw[Nat.testBit_succ,Nat.testBit_succ,show(2*m+1) / 2=m by omega,show 2*m / 2=m by omega];exact⟨rfl,rfl⟩
 refine⟨hk,by rw[t1,aa (Nat.lt_irrefl c),Nat.sub_self,b0],fun j=> ?_⟩;rw[Nat.testBit_and,t1,t2];by_cases hj:j<c
 .rw[ae hj];simp
 .rw[aa hj,aa hj];by_cases hjc:j=c
  .rw[hjc,Nat.sub_self,b0,b1];simp
  .obtain⟨d,hd⟩:∃d,j-c=d+1:=⟨j-c-1,by omega⟩
   rw[hd,(bs d).1,(bs d).2,show(j==c)=ZC by simp[hjc]];cases m.testBit d<;>rfl
def uw{w:Int}(h0:0<w)(h1:w<=18446744073709551615):∃k:Nat,CO w=(k:Int)/\k<64/\tb w k=ZB/\∀j,j<64->tb (Ac .and .u64 w (Ac .sub .u64 w 1)) j=(tb w j &&!(j==k)):=by
 obtain⟨n,rfl⟩:=cj (Int.le_of_lt h0);obtain⟨c1,c2,c3⟩:=aiM (x:=n) Fn Fn;refine⟨Lib.ctz 64 n,rfl,c1,by rw[Qu Fn h1 c1];exact c2,fun j hj=> ?_⟩;have e:Ac .sub .u64 (n:Int) 1=((n-1:Nat):Int):=by show IntKind.u64.wrap _=_;rw[aW];omega
 rw[e];show tb (bits .and .u64 _ _) j=_;rw[jK,Qu Fn h1 hj,Qu Fn Fn hj,<-Nat.testBit_and,cY,cY];exact c3 j
def yg{w:Int}{n:Nat}(hn:n<64)(hj:j<64):tb (Hn w n) j=(tb w j||j==n):=by
 show tb (bits .or .u64 _ _) j=_;rw[fJ];have e:Ac .shl .u64 1 (n:Int)=((2 ^ n:Nat):Int):=by show IntKind.u64.wrap (1*2 ^ min (n:Int).toNat 64)=_;rw[aW,cY,Nat.min_eq_left Fn,Int.one_mul];have h2:2 ^ n<2 ^ 64:=Nat.pow_lt_pow_right ST hn;have h3:((2 ^ n:Nat):Int)=(2:Int) ^ n:=Int.natCast_pow 2 n;rw[<-h3];clear h3;generalize (2:Nat) ^ n=z at h2 ⊢;have h4:z<18446744073709551616:=h2;omega
 rw[e];have h2:2 ^ n<2 ^ 64:=Nat.pow_lt_pow_right ST hn;rw[Qu (Int.natCast_nonneg _) Fn hj,cY,Nat.testBit_two_pow];congr 1;rw[ao,aE,cQ];exact eq_comm
structure VI(p:Prog)(r:VR):Prop where
 w:0<=r.w/\r.w<=18446744073709551615
 T:r.T.length=64
 g:r.g.length=64
 on:∀k:Nat,k<64->tb r.w k=ZB->k<p.l.length/\gt r.T k 0=1
def aii{n:Nat}{row:List Int}(k:Nat)(c:Nat)(hn:n<T.length):gt (T.set n row) (k:Int) c=if k=n then row.getD c 0 else gt T k c:=by
 unfold gt;rw[cY];have e:∀T:LL,T.getD k []=(T[k]?).getD []:=fun T=>bZ;rw[e,e];split
 next e=>rw[e,List.getElem?_set_self hn];rfl
 next e=>rw[pB (fun e2=>e e2.symm)]
def acs(op:BinOp)(a b:Int):0<=bits op .u64 a b/\bits op .u64 a b<=18446744073709551615:=by have:=abW op .u64 a b;simp[Ae,IntKind.min,IntKind.max,YT,YW]at this;omega
def VI.lay{p:Prog}{r:VR}(h:VI p r){n:Nat}(hn:n<p.l.length)(hl:p.l.length<=64)(row:List Int)(g:LL)(hg:g.length=64):VI p ⟨Hn r.w n,r.T.set n (1::row),g⟩ where
 w:=acs .or _ _
 T:=by rw[List.length_set];exact h.T
 g:=hg
 on k hk hb:=by
  rw[yg Fn hk,fy,cQ]at hb;rw[aii k 0 (by rw[h.T];omega)];split
  next e=>rw[e];exact⟨hn,rfl⟩
  next e=>exact h.on k hk (hb.resolve_right e)
def VI.put{p:Prog}{r:VR}(h:VI p r){q:Int×Sta}(h0:0<=q.1/\q.1<(p.l.length:Int))(hl:p.l.length<=64):VI p (AQ r q):=by
 obtain⟨n,hn⟩:=cj h0.1;unfold AQ;rw[hn,cY];split
 .split
  .exact h
  .exact h.lay Fn hl _ _ (by rw[iC];exact h.g)
 .exact h.lay Fn hl _ _ h.g
def VI.puts{p:Prog}(hl:p.l.length<=64):∀(l:List (Int×Sta)) {r:VR},VI p r->(∀q∈l,0<=q.1/\q.1<(p.l.length:Int))->VI p (l.foldl AQ r)
 |[],r,h,_=>h
 |q::l,r,h,hq=>VI.puts hl l (h.put (hq q bW) hl) (fun x hx=>hq x (cR _ hx))
def VI.next{p:Prog}{r:VR}(h:VI p r)(hw:r.w≠0):VI p (jp r)/\∃k:Nat,CO r.w=(k:Int)/\k<64/\k<p.l.length/\gt r.T k 0=1:=by obtain⟨k,h1,h2,h3,h4⟩:=uw (by have:=h.w;omega) h.w.2;refine⟨⟨acs .and _ _,h.T,h.g,fun j hj hb=> ?_⟩,k,h1,h2,h.on k h2 h3⟩;have hb:tb (Ac .and .u64 r.w (Ac .sub .u64 r.w 1)) j=ZB:=hb;rw[h4 j hj,ne]at hb;exact h.on j hj hb.1
def VI.ini{p:Prog}(hl:1<=p.l.length):VI p vini where
 w:=ST
 T:=by unfold vini;simp
 g:=by unfold vini;simp
 on k hk hb:=by
  have h1:tb 1 k=ZB:=hb;rw[Qu ST ST hk]at h1;have:k=0:=by
   cases k with
   |zero=>rfl
   |succ k=>rw[show Int.toNat 1=1 from rfl,Nat.testBit_succ]at h1;simp at h1
  subst this;exact⟨hl,rfl⟩
def arP{p:Prog}{i:Nat}(hl:p.l.length<=maxLen)(h:(aY p).2=0)(hi:i<p.l.length)(ht:(AO i (ab p.l i)).2=ZB):0<=(AO i (ab p.l i)).1/\(AO i (ab p.l i)).1<(p.l.length:Int):=by
 obtain⟨⟨h1,_,_⟩,h2,_⟩:=cL hl h;have h3:=h2 i hi;by_cases hc:(decide (0<=(AO i (ab p.l i)).1)&&decide ((AO i (ab p.l i)).1<=p.last))=ZB
 .simp only[ne,aE]at hc;omega
 .rw[pf (kT hl h (Int.natCast_nonneg i) Fn) ht Yp]at h3;cases h3
def ass{p:Prog}{i:Nat}(hl:p.l.length<=maxLen)(h:(aY p).2=0)(hi:i<p.l.length)(h4:(ab p.l i).k≠4)(h6:(ab p.l i).k≠6):Ac .add .i64 (i:Int) 1=((i+1:Nat):Int)/\i+1<p.l.length:=by
 obtain⟨⟨h1,h2,h3⟩,_,h5⟩:=cL hl h;have BM:i+1≠p.l.length:=fun e=>by
  have:p.last=(i:Int):=Fn;rw[this]at h5;rcases h5 with h5|h5
  .exact h4 h5
  .exact h6 h5
 refine⟨?_,by omega⟩;show IntKind.i64.wrap _=_;rw[aT];omega
def ad6{s:Sta}{go:Int}{a b:Ty}{t k:Bool}{q:Int×Sta}(h:q∈C0 s d a b t go cc k):q.1=go:=by
 unfold C0 at h;split at h
 .split at h
  .rw[dA.1 h]
  .exact Xo
 .rw[dA.1 h]
def xU{p:Prog}{i:Nat}(hl:p.l.length<=maxLen)(h:(aY p).2=0)(hi:i<p.l.length){s:Sta}{b:Ty}:∀q∈gF i (ab p.l i) s b,0<=q.1/\q.1<(p.l.length:Int):=by
 intro q hq;unfold gF at hq;split at hq
 .cases hq
 next hk=>obtain⟨e1,e2⟩:=ass hl h hi (fun e=>hk (.inl e)) (fun e=>hk (.inr e));rw[ad6 hq,e1];omega
def ad2{p:Prog}{i:Nat}(hl:p.l.length<=maxLen)(h:(aY p).2=0)(hi:i<p.l.length){s:Sta}{b:Ty}:∀q∈ib i (ab p.l i) s b,0<=q.1/\q.1<(p.l.length:Int):=by
 intro q hq;unfold ib at hq;split at hq
 next ht=>rw[ad6 hq];exact arP hl h hi ht
 .cases hq
def ai4(h0:0<=d)(h1:d<=10):∃n:Nat,AN d=(n:Int)/\n<2048:=by obtain⟨n,rfl⟩:=cj h0;have:n<=10:=Fn;have key:∀n,n<11->∃m:Nat,m<2048/\AN (n:Nat)=(m:Int):=XZ;obtain⟨m,h2,h3⟩:=key n Fn;exact⟨m,h3,h2⟩
def asm:∀d,d<11->∀s,s<11->∃m:Nat,m<2048/\Ac .or .i64 (AN (d:Nat)) (AN (s:Nat))=(m:Int):=by decide +kernel
def asn:∀d,d<11->∃m:Nat,m<2048/\Ac .or .i64 (AN (d:Nat)) 0=(m:Int):=by decide +kernel
def arn:∀a,a<6->∃m:Nat,m<2048/\Ac .sub .i64 (Ac .shl .i64 1 (Ac .add .i64 (a:Nat) 1)) 2=(m:Int):=by decide +kernel
def al6{x:Ins}(h:A2 x=ZB):∃R:Nat,Dy x=(R:Int)/\R<2048:=by
 have b:=cz h;obtain⟨d,hd⟩:∃d:Nat,x.d=d:=⟨x.d.toNat,by omega⟩
 obtain⟨s,hs⟩:∃s:Nat,x.s=s:=⟨x.s.toNat,by omega⟩
 have two:∃m:Nat,Ac .or .i64 (AN x.d) (if x.br=ZB then AN x.s else 0)=(m:Int)/\m<2048:=by
  rw[hd,hs];split
  .obtain⟨m,h1,h2⟩:=asm d Fn s Fn;exact⟨m,h2,h1⟩
  .obtain⟨m,h1,h2⟩:=asn d Fn;exact⟨m,h2,h1⟩
 unfold Dy;rw[ae h];split
 .split
  .split
   .exact ai4 b.2.2.1 b.2.2.2.1
   .exact⟨0,rfl,by decide⟩
  .exact two
 split
 .exact ai4 b.2.2.1 b.2.2.2.1
 split
 .rw[hd,hs];obtain⟨m,h1,h2⟩:=asm d Fn s Fn;exact⟨m,h2,h1⟩
 split
 .exact two
 split
 .have:=fN x.imm;obtain⟨a,ha⟩:∃a:Nat,fO x.imm=a:=⟨(fO x.imm).toNat,by omega⟩
  rw[ha];obtain⟨m,h1,h2⟩:=arn a Fn;exact⟨m,h2,h1⟩
 split
 .exact⟨1,rfl,by decide⟩
 .exact⟨0,rfl,by decide⟩
structure Mem where
 b0:Int
 l0:LL
 w0:Bool
 b1:Int
 l1:LL
 w1:Bool
 b2:Int
 l2:LL
 w2:Bool
 b3:Int
 l3:LL
 w3:Bool
structure Act where
 dw:Int
 at_:Int
 n:Int
 v:Int
structure Mem.fit(m:Mem):Prop where
 b0:m.b0=1048576
 b1:m.b1=2097152
 b2:m.b2=3145728
 b3:m.b3=4194304
 w0:m.w0=ZC
 w1:m.w1=ZB
 w2:m.w2=ZB
 w3:m.w3=ZB
 l0:m.l0.length<=16384
 l1:m.l1.length<=256
 l2:m.l2.length=64
 l3:m.l3.length<=264
def inr(b:Int)(l:LL)(a n:Int):Bool:=decide (b<=a)&&decide (a-b+n<=(l.length:Int))
def CM:LL->Int
 |[]=>0
 |x::r=>x.getD 0 0+256*CM r
def BS(b:Int)(l:LL)(a n:Int):LL:=(l.drop (a-b).toNat).take n.toNat
def Mem.reg(m:Mem)(a n:Int):Int:=if inr m.b0 m.l0 a n then 1 else if inr m.b1 m.l1 a n then 2 else if inr m.b2 m.l2 a n then 3 else if inr m.b3 m.l3 a n then 4 else 0
def H3(m:Mem)(a n:Int):Int:=if aR n then(if m.reg a n=0 then 20 else 0)else 2
def FQ(m:Mem)(a n:Int):Int:=if aR n then
 (if inr m.b0 m.l0 a n then CM (BS m.b0 m.l0 a n)else if inr m.b1 m.l1 a n then CM (BS m.b1 m.l1 a n)else if inr m.b2 m.l2 a n then CM (BS m.b2 m.l2 a n)else if inr m.b3 m.l3 a n then CM (BS m.b3 m.l3 a n)else 0)else 0
def xj(h:Ae .u64 a=ZB):0<=a/\a<=18446744073709551615:=by have:=bF.1 h;simpa[IntKind.min,IntKind.max,YT,YW]using this
def avp(h:Ae .u8 v=ZB):0<=v/\v<=255:=by have:=bF.1 h;simpa[IntKind.min,IntKind.max,YT,YW]using this
def Qj(h0:0<=a)(h1:a<=18446744073709551615):ZG .u64 a=a:=pt (bF.2 (by simp[IntKind.min,IntKind.max,YT,YW];omega))
def GE(h0 : -9223372036854775808<=a)(h1:a<=9223372036854775807):ZG .i64 a=a:=pt (bF.2 (by simp[IntKind.min,IntKind.max,YT,YW];omega))
def bR(h:aR n=ZB):n=1\/n=2\/n=4\/n=8:=by simpa[aR]using h
def zI(h:RowsIn [ZA .u8] l){r:List Int}(hr:r∈l):∃x,r=[x]/\0<=x/\x<=255:=by
 have h1:=h.row r hr;have h3:=gQ h1
 match r,h1,h3 with
 |[x],h1,_=>have h2:=avp (v:=x) (by simpa[az,Dp]using h1);exact⟨x,rfl,h2.1,h2.2⟩
def aiU(h:RowsIn [ZA .u8] l)(i:Int):0<=gt l i 0/\gt l i 0<=255:=by
 unfold gt;rw[bZ (l:=l)];cases hq:l[i.toNat]? with
 |none=>exact⟨Int.le_refl _,by decide⟩
 |some r=>obtain⟨x,rfl,h1,h2⟩:=zI h (fI hq);exact⟨h1,h2⟩
def yV:∀{l:LL},RowsIn [ZA .u8] l->0<=CM l/\CM l<256 ^ l.length
 |[],_=>⟨Int.le_refl _,by decide⟩
 |r::l,h=>by obtain⟨x,rfl,h1,h2⟩:=zI h bW;have ih:=yV (l:=l) ⟨fun r hr=>h.row r (cR _ hr),by have:=h.len;simp at this;omega⟩;rw[YQ,Int.pow_succ];simp only[CM,List.getD_cons_zero];omega
def apN(h0:0<=v)(h1:v<72057594037927936)(h2:0<=b)(h3:b<=255):Ac .or .u64 (Ac .shl .u64 v 8) b=b+256*v:=by
 have e1:Ac .shl .u64 v 8=v*256:=by show IntKind.u64.wrap (v*2 ^ min (8:Int).toNat 64)=_;rw[show min (8:Int).toNat 64=8 from rfl];exact Qj Fn Fn
 rw[e1];obtain⟨n,rfl⟩:=cj h0;obtain⟨m,rfl⟩:=cj h2;have h:256*n+m=256*n ||| m:=Nat.two_pow_add_eq_or_of_lt (i:=8) Fn n;show bits .or .u64 _ _=_;rw[show((n:Int)*256)=((256*n:Nat):Int)from by omega,u64_or_nat _ _ Fn Fn,<-h];omega
def wC(h:RowsIn ks l)(n:Nat):RowsIn ks (l.take n):=⟨fun r hr=>h.row r (List.mem_of_mem_take hr),by have:=h.len;rw[YZ];omega⟩
def mr(h:RowsIn ks l)(n:Nat):RowsIn ks (l.drop n):=⟨fun r hr=>h.row r (List.mem_of_mem_drop hr),by have:=h.len;rw[List.length_drop];omega⟩
structure Win(b:Int)(l:LL)(a n:Int):Prop where
 sub:Ac .sub .u64 a b=a-b
 cv:ZG .i64 (a-b)=a-b
 add:Ac .add .i64 (a-b) n=a-b+n
 win:(l.take (a-b+n).toNat).drop (a-b).toNat=BS b l a n
 len:(BS b l a n).length=n.toNat
 lo:0<=a-b
 hi:a-b+n<=(l.length:Int)
 n1:1<=n
 n8:n<=8
def Win.of(h:inr b l a n=ZB)(ha:Ae .u64 a=ZB)(hb:0<=b)(hl:l.length<=1048576)(hn:1<=n)(hn8:n<=8):Win b l a n:=by
 simp only[inr,ne,aE]at h;have h2:=xj ha;have AZ:(BS b l a n).length=n.toNat:=by unfold BS;rw[YZ,List.length_drop];omega
 refine⟨Qj Fn Fn,GE Fn Fn,GE Fn Fn,?_,AZ,by omega,h.2,hn,hn8⟩;unfold BS;rw[List.drop_take,show(a-b+n).toNat-(a-b).toNat=n.toNat by omega]
def Win.byte(h:Win b l a n)(hl:l.length<=1048576)(hk:k<n.toNat):Ac .add .i64 (a-b) (k:Int)=a-b+k/\(BS b l a n)[k]? =l[(a-b+k).toNat]? :=by obtain⟨_,_,_,_,_,h6,h7,h8,h9⟩:=h;refine⟨GE Fn Fn,?_⟩;unfold BS;rw[List.getElem?_take_of_lt hk,List.getElem?_drop];congr 1;omega
def Win.step(h:Win b l a n)(hl:l.length<=1048576)(hr:RowsIn [ZA .u8] l)(hk:k<n.toNat):
  Ac .or .u64 (Ac .shl .u64 (CM ((BS b l a n).drop (k+1))) 8) (ZG .u64 (gt l (Ac .add .i64 (a-b) (k:Int)) 0))=CM ((BS b l a n).drop k):=by
 obtain⟨h1,h2⟩:=h.byte hl hk;have hw:RowsIn [ZA .u8] (BS b l a n):=wC (mr hr _) _;have Ko:k<(BS b l a n).length:=by rw[h.len];exact hk
 rw[h1];have hg:gt l (a-b+k) 0=((BS b l a n)[k]).getD 0 0:=by unfold gt;rw[bZ (l:=l),<-h2,AH Ko];rfl
 have hb:=aiU hr (a-b+k);have hd:=yV (mr hw (k+1));have AZ:((BS b l a n).drop (k+1)).length<=7:=by rw[List.length_drop,h.len];have:=h.n8;omega
 have hp:(256:Int) ^ ((BS b l a n).drop (k+1)).length<=256 ^ 7:=by
  have e:∀k:Nat,(256:Int) ^ k=((256 ^ k:Nat):Int):=fun k=>by rw[Int.natCast_pow];rfl
  rw[e,e];exact Int.ofNat_le.2 (YU ST AZ)
 rw[Qj hb.1 Fn,apN hd.1 Fn hb.1 hb.2,List.drop_eq_getElem_cons Ko,CM,<-hg]
def J5{x:Int}(h0 : -1000000000000<=x)(h1:x<=1000000000000):Ac .sub .i64 x 1=x-1:=GE Fn Fn
def Win.init(h:Win b l a n):[Dt.z 0,Dt.z (Ac .sub .i64 (((l.take (Ac .add .i64 (ZG .i64 (Ac .sub .u64 a b)) n).toNat).drop (Ac .sub .u64 a b).toNat).length:Int) 1)]=[Dt.z (CM ((BS b l a n).drop n.toNat)),Dt.z ((n.toNat:Int)-1)]:=by have h8:=h.n8;have h1:=h.n1;rw[h.sub,h.cv,h.add,h.win,h.len,List.drop_eq_nil_of_le (by rw[h.len];exact ZK _),J5 Fn Fn];rfl
def Win.next(h:Win b l a n)(hl:l.length<=1048576)(hr:RowsIn [ZA .u8] l)(hk:k+1<=n.toNat):
  (∃j:Nat,[Dt.z (Ac .or .u64 (Ac .shl .u64 (CM ((BS b l a n).drop (k+1))) 8) (ZG .u64 (gt l (Ac .add .i64 (a-b) (((k+1:Nat):Int)-1)) 0))),Dt.z (Ac .sub .i64 (((k+1:Nat):Int)-1) 1)]=[Dt.z (CM ((BS b l a n).drop j)),Dt.z ((j:Int)-1)]/\j<=n.toNat)/\(Ac .sub .i64 (((k+1:Nat):Int)-1) 1+1).toNat<(((k+1:Nat):Int)-1+1).toNat:=by
 have h8:=h.n8;have e:((k+1:Nat):Int)-1=(k:Int):=Fn;rw[e,h.step hl hr Fn,J5 Fn Fn];exact⟨⟨k,rfl,by omega⟩,by omega⟩
def Mem.Row(m:Mem)(b:Int)(l:LL):Prop:=(b=m.b0/\l=m.l0)\/(b=m.b1/\l=m.l1)\/(b=m.b2/\l=m.l2)\/(b=m.b3/\l=m.l3)
def km:inr b l a n=ZB↔b<=a/\a-b+n<=(l.length:Int):=by simp[inr]
def gv(h:¬(b<=a/\a-b+n<=(l.length:Int))):inr b l a n=ZC:=by
 cases hq:inr b l a n with
 |false=>rfl
 |true=>exact ai (km.1 hq) h
structure Mem.Lim(m:Mem):Prop where
 b0:m.b0=1048576
 b1:m.b1=2097152
 b2:m.b2=3145728
 b3:m.b3=4194304
 l0:m.l0.length<=16384
 l1:m.l1.length<=256
 l2:m.l2.length=64
 l3:m.l3.length<=264
def Mem.fit.lim{m:Mem}(h:m.fit):m.Lim:=⟨h.b0,h.b1,h.b2,h.b3,h.l0,h.l1,h.l2,h.l3⟩
def asf{m:Mem}(hf:m.Lim)(h:m.Row b l)(hi:inr b l a n=ZB)(hs:aR n=ZB):H3 m a n=0/\FQ m a n=CM (BS b l a n):=by
 have Bg:=km.1 hi;have hn:=bR hs;obtain⟨e0,e1,e2,e3,g0,g1,g2,g3⟩:=hf;rcases h with⟨rfl,rfl⟩|⟨rfl,rfl⟩|⟨rfl,rfl⟩|⟨rfl,rfl⟩
 .simp[H3,FQ,Mem.reg,hs,hi]
 .have f0:inr m.b0 m.l0 a n=ZC:=gv Fn;simp[H3,FQ,Mem.reg,hs,hi,f0]
 .have f0:inr m.b0 m.l0 a n=ZC:=gv Fn;have f1:inr m.b1 m.l1 a n=ZC:=gv Fn;simp[H3,FQ,Mem.reg,hs,hi,f0,f1]
 .have f0:inr m.b0 m.l0 a n=ZC:=gv Fn;have f1:inr m.b1 m.l1 a n=ZC:=gv Fn;have f2:inr m.b2 m.l2 a n=ZC:=gv Fn;simp[H3,FQ,Mem.reg,hs,hi,f0,f1,f2]
def Mem.Row.lim{m:Mem}(hf:m.Lim)(h:m.Row b l):0<=b/\b<=4194304/\l.length<=16384:=by obtain⟨e0,e1,e2,e3,g0,g1,g2,g3⟩:=hf;rcases h with⟨rfl,rfl⟩|⟨rfl,rfl⟩|⟨rfl,rfl⟩|⟨rfl,rfl⟩<;>omega
def agH(n:Nat)(hn:n<=maxLen):RowsIn [ZA .u8] (ZM n [0]):=⟨fun r hr=>by rw[List.eq_of_mem_replicate hr];rfl,by rw[List.length_replicate];exact hn⟩
def Gn(y c f s:LL):Mem:=⟨1048576,y,ZC,2097152,c,ZB,3145728,f,ZB,4194304,s,ZB⟩
def UH(v:Int)(k:Nat):Int:=ZG .u8 (Ac .shr .u64 v (Ac .mul .i64 8 (k:Int)))
def putL(l:LL)(o:Nat)(v:Int):Nat->LL
 |0=>l
 |k+1=>st (putL l o v k) ((o+k:Nat):Int) 0 (UH v k)
def fL(l:LL)(o:Nat)(v:Int):∀k,(putL l o v k).length=l.length
 |0=>rfl
 |k+1=>by rw[putL,nt,fL l o v k]
def avO(hr:RowsIn [ZA .u8] l){i:Nat}(hi:i<l.length)(x:Int)(j:Nat):gt (st l (i:Int) 0 x) (j:Int) 0=if j=i then x else gt l (j:Int) 0:=by
 unfold gt st;simp only[cY];rw[bZ (l:=List.set _ _ _),em];by_cases h:i=j
 .subst h;rw[ae rfl,ae hi,ae rfl,Option.getD_some,bZ (l:=l),AH hi,Option.getD_some];obtain⟨z,hz,_,_⟩:=zI hr (List.getElem_mem hi);rw[hz];rfl
 .rw[aa h,aa (Ne.symm h),<-bZ]
def alO(v:Int)(k:Nat):Ae .u8 (UH v k)=ZB:=mQ _ _
def mG{l:LL}(hr:RowsIn [ZA .u8] l)(o:Nat)(v:Int):∀k,RowsIn [ZA .u8] (putL l o v k)
 |0=>hr
 |k+1=>ae0 (ks:=[ZA .u8]) (c:=0) rfl (alO v k) (mG hr o v k) _
def aij{l:LL}(hr:RowsIn [ZA .u8] l)(o:Nat)(v:Int)(j:Nat):∀k,o+k<=l.length->gt (putL l o v k) (j:Int) 0=if o<=j/\j<o+k then UH v (j-o)else gt l (j:Int) 0
 |0,_=>by rw[aa Fn];rfl
 |k+1,h=>by
   rw[putL,avO (mG hr o v k) (by rw[fL];omega),aij hr o v j k Fn];by_cases h1:j=o+k
   .rw[ae h1,ae Fn,h1,Nat.add_sub_cancel_left]
   .rw[aa h1];by_cases h2:o<=j/\j<o+k
    .rw[ae h2,ae Fn]
    .rw[aa h2,aa Fn]
structure LimB(X:Nat)(y c f s:LL):Prop where
 x:X<=256
 y:y.length<=16384
 c:c.length=X
 f:f.length=64
 s:s.length=264
def LimB.fit{X:Nat}{y c f s:LL}(h:LimB X y c f s):(Gn y c f s).fit:=⟨rfl,rfl,rfl,rfl,rfl,rfl,rfl,rfl,h.y,by have:=h.c;have:=h.x;show c.length<=256;omega,h.f,by have:=h.s;show s.length<=264;omega⟩
def PU(op l a b:Int):Int:=if Bv op l=ZB then BE op l a b else 0
def zo(cc l a b:Int):Bool:=DW cc l&&lW cc l a b
def bg(x:Ins):Int:=
 if x.k=0\/x.k=3 then(if x.br=ZB then Ac .or .i64 (if x.k=3\/x.op≠11 then AN x.d else 0) (AN x.s)else if x.k=3\/x.op≠11 then AN x.d else 0)
 else if x.k=2 then Ac .or .i64 (AN x.d) (AN x.s)
 else if x.k=1 then AN x.s
 else if x.k=5 then Ac .sub .i64 (Ac .shl .i64 1 (Ac .add .i64 (fO x.imm) 1)) 2
 else if x.k=6 then 1 else 0
structure Ms where
 rg:List Int
 st:Int
 pc:Int
 an:LL
 tr:LL
 cx:LL
 fm:LL
def Ms.mem(m:Ms):Mem:=Gn [] m.cx m.fm []
def Ms.r(m:Ms)(i:Int):Int:=m.rg.getD i.toNat 0
def Ms.sec(m:Ms)(x:Ins):Int:=if x.br=ZB then m.r x.s else IntKind.u64.wrap x.imm
def Ms.set(m:Ms)(i v:Int):Ms:={m with rg:=m.rg.set i.toNat v,st:=Ac .or .i64 m.st (AN i)}
def FX(a off:Int):Int:=Ac .add .u64 a (ZG .u64 off)
def CU(rg:List Int)(n:Int):LL:=((rg.map fun v=>[v]).take (Ac .add .i64 1 n).toNat).drop (1:Int).toNat
def atS(rg:List Int)(num ans n:Int):List Int:=[num,ans,ZG .i64 ((CU rg n).length:Int),gt (CU rg n) 0 0,gt (CU rg n) 1 0,gt (CU rg n) 2 0,gt (CU rg n) 3 0,gt (CU rg n) 4 0]
def Ip(st:Int):Int:=Ac .andNot .i64 (Ac .andNot .i64 (Ac .andNot .i64 (Ac .andNot .i64 (Ac .andNot .i64 (Ac .or .i64 st 1) 2) 4) 8) 16) 32
def Ms.call(m:Ms)(x:Ins):Ms:={m with rg:=[gt m.an 0 0,0,0,0,0,0]++m.rg.drop 6,st:=Ip m.st,an:=m.an.drop (1:Int).toNat,tr:=m.tr++[atS m.rg x.imm (gt m.an 0 0) (fO x.imm)]}
def LD(m:Ms)(a n v:Int):LL:=if inr 2097152 m.cx a n then putL m.cx (a-2097152).toNat v n.toNat else m.cx
def Jt(m:Ms)(a n v:Int):LL:=if inr 3145728 m.fm a n then putL m.fm (a-3145728).toNat v n.toNat else m.fm
def EY(m:Ms)(a n:Int):Bool:=inr 2097152 m.cx a n||inr 3145728 m.fm a n
def xo(m:Ms)(x:Ins):Int:=
 if Ac .andNot .i64 (bg x) m.st≠0 then 3
 else if x.k=1 then(if H3 m.mem (FX (m.r x.s) x.off) (ZG .i64 x.sz)=0 then 0 else 3)
 else if x.k=2 then(if EY m (FX (m.r x.d) x.off) (ZG .i64 x.sz)=ZB then 0 else 3)
 else if x.k=5 then(if m.an.length=0 then 2 else 0)
 else if x.k=6 then 1 else 0
def ee(m:Ms)(x:Ins):Ms:=
 if x.k=0 then m.set x.d (PU x.op x.w (m.r x.d) (m.sec x))
 else if x.k=1 then m.set x.d (FQ m.mem (FX (m.r x.s) x.off) (ZG .i64 x.sz))
 else if x.k=2 then {m with cx:=LD m (FX (m.r x.d) x.off) (ZG .i64 x.sz) (m.r x.s),fm:=Jt m (FX (m.r x.d) x.off) (ZG .i64 x.sz) (m.r x.s)}
 else if x.k=5 then m.call x else m
def Hv(m:Ms)(x:Ins):Int:=if x.k=4\/(x.k=3/\zo x.op 64 (m.r x.d) (m.sec x)=ZB)then(AO m.pc x).1 else Ac .add .i64 m.pc 1
def halt(p:Prog)(m:Ms):Int:=xo m (ab p.l m.pc)
def DF(p:Prog)(m:Ms):Ms:={ee m (ab p.l m.pc)with pc:=Hv m (ab p.l m.pc)}
def exec(p:Prog):Nat->Ms->Int×Int×Ms
 |0,m=>(0,0,m)
 |f+1,m=>if halt p m=0 then exec p f (DF p m)else(halt p m,(f:Int),m)
def GC(cx an:LL):Ms:=⟨[0,2097152,0,0,0,0,0,0,0,0,3145792],1026,0,an,[],cx,ZM (64:Int).toNat [0]⟩
structure Out where
 kind:Int
 r0:Int
 ctx:LL
 tr:LL
 left:Int
def asl(z:Int×Int×Ms):Out:=⟨z.1,if z.1=1 then z.2.2.r 0 else 0,z.2.2.cx,z.2.2.tr,z.2.1⟩
def out0:Out:=⟨0,0,[],[],0⟩
def kf(p:Prog)(cx:LL)(fu:Int):Int:=
 if(aY p).2≠0 then(aY p).2
 else if(cx.length:Int)≠p.ctx\/fu<0\/10000<fu then 2
 else 0
def Cm(p:Prog)(cx an:LL)(fu:Int):Out×Int:=if kf p cx fu≠0 then(out0,kf p cx fu)else(asl (exec p fu.toNat (GC cx an)),0)
def auQ{r0 r1 r2 r3 r4 r5 r6 r7 r8 r9 r10:Int}(h0:0<=d)(h1:d<=10):
  [if(d==0)=ZB then v else r0,if(d==1)=ZB then v else r1,if(d==2)=ZB then v else r2,if(d==3)=ZB then v else r3,if(d==4)=ZB then v else r4,if(d==5)=ZB then v else r5,if(d==6)=ZB then v else r6,if(d==7)=ZB then v else r7,if(d==8)=ZB then v else r8,if(d==9)=ZB then v else r9,if(d==10)=ZB then v else r10]=[r0,r1,r2,r3,r4,r5,r6,r7,r8,r9,r10].set d.toNat v:=by
 have hd:d=0\/d=1\/d=2\/d=3\/d=4\/d=5\/d=6\/d=7\/d=8\/d=9\/d=10:=Fn;rcases hd with rfl|rfl|rfl|rfl|rfl|rfl|rfl|rfl|rfl|rfl|rfl<;>rfl
structure RunAt(p:Prog)(cx an:LL)(fu:Int)(left:Int)(m:Ms):Prop where
 lo:0<=left
 hi:left<=fu
 rn:exec p fu.toNat (GC cx an)=exec p left.toNat m
 pc0:0<=m.pc
 pc1:m.pc<(p.l.length:Int)
 fm:m.fm.length=64
 cxl:m.cx.length=cx.length
 tr:(m.tr.length:Int)+left<=fu
def RunAt.init{p:Prog}(h0:0<=fu)(hl:1<=p.l.length):RunAt p cx an fu fu (GC cx an):=⟨h0,Int.le_refl _,rfl,Int.le_refl _,by show(0:Int)<_;omega,List.length_replicate,rfl,by show(0:Int)+fu<=fu;omega⟩
def aq4{p:Prog}{m:Ms}(h:0<left)(hh:halt p m=0):exec p left.toNat m=exec p (left-1).toNat (DF p m):=by rw[show left.toNat=(left-1).toNat+1 by omega];simp only[exec,hh,bm]
def alC{p:Prog}{m:Ms}(h:0<left)(hh:halt p m≠0):exec p left.toNat m=(halt p m,left-1,m):=by rw[show left.toNat=(left-1).toNat+1 by omega];simp only[exec,aa hh];rw[Int.toNat_of_nonneg Fn]
def alB{p:Prog}{m:Ms}(h0:0<=left)(h:¬0<left):exec p left.toNat m=(0,0,m):=by rw[show left.toNat=0 by omega];rfl
def ae2(m:Ms)(a n v:Int):(LD m a n v).length=m.cx.length:=by
 unfold LD;split
 .rw[fL]
 .rfl
def ae1(m:Ms)(a n v:Int):(Jt m a n v).length=m.fm.length:=by
 unfold Jt;split
 .rw[fL]
 .rfl
def adI(m:Ms)(x:Ins):(ee m x).cx.length=m.cx.length/\(ee m x).fm.length=m.fm.length/\((ee m x).tr.length<=m.tr.length+1):=by
 unfold ee;split
 .exact Yq
 .split
  .exact Yq
  .split
   .exact⟨ae2 _ _ _ _,ae1 _ _ _ _,Nat.le_succ _⟩
   .split
    .exact⟨rfl,rfl,by simp[Ms.call]⟩
    .exact Yq
def asj{p:Prog}(hp:p.l.length<=maxLen)(Aj:(aY p).2=0){m:Ms}(h0:0<=m.pc)(h1:m.pc<(p.l.length:Int))(hh:halt p m=0):0<=Hv m (ab p.l m.pc)/\Hv m (ab p.l m.pc)<(p.l.length:Int):=by
 obtain⟨⟨hl,n1,n64⟩,A8,MS⟩:=cL hp Aj;obtain⟨n,hn⟩:∃n:Nat,m.pc=(n:Int):=⟨m.pc.toNat,by omega⟩
 have hb:=A8 n Fn;rw[<-hn]at hb;unfold lU at hb;split at hb
 .cases hb
 .rename_i Bi;split at hb
  .cases hb
  .rename_i hto;have Bi:A2 (ab p.l m.pc)=ZB:=by simpa using Bi
   have hd:=cz Bi;generalize hx:ab p.l m.pc=x at *;unfold Hv;split
   .rename_i hk;have B2:x.k=3\/x.k=4:=by
     rcases hk with hk|hk
     .exact .inr hk
     .exact .inl hk.1
    have hy:(AO m.pc x).2=ZB:=by rw[se B2 (by rw[ne,aE,aE];omega) (by rw[ne,aE,aE];omega)]
    have:=fun h=>hto ⟨hy,h⟩;have h9:(decide (0<=(AO m.pc x).1)&&decide ((AO m.pc x).1<=p.last))=ZB:=by simpa using this
    rw[ne,aE,aE]at h9;omega
   .rename_i hk;have e1:Ac .add .i64 m.pc 1=m.pc+1:=GE Fn Fn;rw[e1];refine⟨by omega,?_⟩;rcases Int.lt_or_le (m.pc+1) p.l.length with h2|h2
    .exact h2
    .exfalso;have h3:m.pc=p.last:=Fn;rw[<-h3,hx]at MS;rcases MS with h4|h4
     .exact hk (.inl h4)
     .unfold halt xo at hh;rw[hx]at hh;split at hh
      .cases hh
      .simp[h4]at hh
def RunAt.go{p:Prog}{FO:Int}{m m':Ms}(h:RunAt p cx an fu left m)(hp:p.l.length<=maxLen)(Aj:(aY p).2=0)(hf:fu<=10000)(hl:0<left)(hh:halt p m=0)(hm:m'=DF p m)(he:FO=Ac .sub .i64 left 1):
  RunAt p cx an fu FO m'/\FO.toNat<left.toNat:=by
 have e1:Ac .sub .i64 left 1=left-1:=by have:=h.hi;exact GE Fn Fn
 subst hm;rw[he,e1];obtain⟨k1,k2,k3⟩:=adI m (ab p.l m.pc);obtain⟨q1,q2⟩:=asj hp Aj h.pc0 h.pc1 hh;refine⟨⟨by omega,by have:=h.hi;omega,h.rn.trans (aq4 hl hh),q1,q2,?_,?_,?_⟩,by omega⟩
 .exact k2.trans h.fm
 .exact k1.trans h.cxl
 .have:=h.tr;show((ee m (ab p.l m.pc)).tr.length:Int)+(left-1)<=fu;omega
def atD{p:Prog}{m:Ms}(h:Ac .andNot .i64 (bg (ab p.l m.pc)) m.st≠0):halt p m=3:=by unfold halt xo;rw[ae h]
def qx{p:Prog}{m:Ms}(h:Ac .andNot .i64 (bg (ab p.l m.pc)) m.st=0)(hk:(ab p.l m.pc).k=0\/(ab p.l m.pc).k=3\/(ab p.l m.pc).k=4):halt p m=0:=by unfold halt xo;rw[aa (by simp[h]),aa Fn,aa Fn,aa Fn,aa Fn]
def anb{p:Prog}{m:Ms}(h:Ac .andNot .i64 (bg (ab p.l m.pc)) m.st=0)(hk:(ab p.l m.pc).k=1):halt p m=if H3 m.mem (FX (m.r (ab p.l m.pc).s) (ab p.l m.pc).off) (ZG .i64 (ab p.l m.pc).sz)=0 then 0 else 3:=by unfold halt xo;rw[aa (by simp[h]),ae hk]
def ana{p:Prog}{m:Ms}(h:Ac .andNot .i64 (bg (ab p.l m.pc)) m.st=0)(hk:(ab p.l m.pc).k=2):halt p m=if EY m (FX (m.r (ab p.l m.pc).d) (ab p.l m.pc).off) (ZG .i64 (ab p.l m.pc).sz)=ZB then 0 else 3:=by unfold halt xo;rw[aa (by simp[h]),aa Fn,ae hk]
def anc{p:Prog}{m:Ms}(h:Ac .andNot .i64 (bg (ab p.l m.pc)) m.st=0)(hk:(ab p.l m.pc).k=5):halt p m=if m.an.length=0 then 2 else 0:=by unfold halt xo;rw[aa (by simp[h]),aa Fn,aa Fn,ae hk]
def am9{p:Prog}{m:Ms}(h:Ac .andNot .i64 (bg (ab p.l m.pc)) m.st=0)(hk:(ab p.l m.pc).k=6):halt p m=1:=by unfold halt xo;rw[aa (by simp[h]),aa Fn,aa Fn,aa Fn,ae hk]
def aif{p:Prog}{m:Ms}(h:Ac .andNot .i64 (bg (ab p.l m.pc)) m.st=0)(hk:(ab p.l m.pc).k=1)(hr:H3 m.mem (FX (m.r (ab p.l m.pc).s) (ab p.l m.pc).off) (ZG .i64 (ab p.l m.pc).sz)=0):halt p m=0:=by rw[anb h hk,ae hr]
def aqV{p:Prog}{m:Ms}(h:Ac .andNot .i64 (bg (ab p.l m.pc)) m.st=0)(hk:(ab p.l m.pc).k=1)(hr:H3 m.mem (FX (m.r (ab p.l m.pc).s) (ab p.l m.pc).off) (ZG .i64 (ab p.l m.pc).sz)≠0):halt p m=3:=by rw[anb h hk,aa hr]
def zq{p:Prog}{m:Ms}(h:Ac .andNot .i64 (bg (ab p.l m.pc)) m.st=0)(hk:(ab p.l m.pc).k=2)(ha:FX (m.r (ab p.l m.pc).d) (ab p.l m.pc).off=a)(hn:ZG .i64 (ab p.l m.pc).sz=n)(hr:EY m a n=ZB):halt p m=0:=by rw[ana h hk,ha,hn,ae hr]
def aqU{p:Prog}{m:Ms}(h:Ac .andNot .i64 (bg (ab p.l m.pc)) m.st=0)(hk:(ab p.l m.pc).k=2)(ha:FX (m.r (ab p.l m.pc).d) (ab p.l m.pc).off=a)(hn:ZG .i64 (ab p.l m.pc).sz=n)(hr:EY m a n=ZC):halt p m=3:=by rw[ana h hk,ha,hn,aa (by rw[hr];decide)]
def aih{p:Prog}{m:Ms}(h:Ac .andNot .i64 (bg (ab p.l m.pc)) m.st=0)(hk:(ab p.l m.pc).k=5)(hr:m.an.length≠0):halt p m=0:=by rw[anc h hk,aa hr]
def aig{p:Prog}{m:Ms}(h:Ac .andNot .i64 (bg (ab p.l m.pc)) m.st=0)(hk:(ab p.l m.pc).k=5)(hr:m.an.length=0):halt p m=2:=by rw[anc h hk,ae hr]
def QX{m':Ms}{st pc:Int}{r0 r1 r2 r3 r4 r5 r6 r7 r8 r9 r10:Int}{tr fm:LL}(h:m'=⟨[r0,r1,r2,r3,r4,r5,r6,r7,r8,r9,r10].set d.toNat v,st,pc,an,tr,cx,fm⟩)(h0:0<=d)(h1:d<=10):
  (⟨[if(d==0)=ZB then v else r0,if(d==1)=ZB then v else r1,if(d==2)=ZB then v else r2,if(d==3)=ZB then v else r3,if(d==4)=ZB then v else r4,if(d==5)=ZB then v else r5,if(d==6)=ZB then v else r6,if(d==7)=ZB then v else r7,if(d==8)=ZB then v else r8,if(d==9)=ZB then v else r9,if(d==10)=ZB then v else r10],st,pc,an,tr,cx,fm⟩:Ms)=m':=by
 rw[h,auQ h0 h1]
def au0{p:Prog}{m:Ms}(hk:(ab p.l m.pc).k=0):DF p m=⟨m.rg.set (ab p.l m.pc).d.toNat (PU (ab p.l m.pc).op (ab p.l m.pc).w (m.r (ab p.l m.pc).d) (m.sec (ab p.l m.pc))),Ac .or .i64 m.st (AN (ab p.l m.pc).d),Ac .add .i64 m.pc 1,m.an,m.tr,m.cx,m.fm⟩:=by unfold DF ee Hv;rw[ae hk,aa Fn];rfl
def auZ{p:Prog}{m:Ms}(hk:(ab p.l m.pc).k=1):DF p m=⟨m.rg.set (ab p.l m.pc).d.toNat (FQ m.mem (FX (m.r (ab p.l m.pc).s) (ab p.l m.pc).off) (ZG .i64 (ab p.l m.pc).sz)),Ac .or .i64 m.st (AN (ab p.l m.pc).d),Ac .add .i64 m.pc 1,m.an,m.tr,m.cx,m.fm⟩:=by unfold DF ee Hv;rw[aa Fn,ae hk,aa Fn];rfl
def asD{p:Prog}{m:Ms}(hk:(ab p.l m.pc).k=2)(ha:FX (m.r (ab p.l m.pc).d) (ab p.l m.pc).off=a)(hn:ZG .i64 (ab p.l m.pc).sz=n)(hv:m.r (ab p.l m.pc).s=v):DF p m=⟨m.rg,m.st,Ac .add .i64 m.pc 1,m.an,m.tr,LD m a n v,Jt m a n v⟩:=by subst ha hn hv;unfold DF ee Hv;rw[aa Fn,aa Fn,ae hk,aa Fn]
def asC{p:Prog}{m:Ms}(hk:(ab p.l m.pc).k=3):DF p m=⟨m.rg,m.st,if zo (ab p.l m.pc).op 64 (m.r (ab p.l m.pc).d) (m.sec (ab p.l m.pc))=ZB then(AO m.pc (ab p.l m.pc)).1 else Ac .add .i64 m.pc 1,m.an,m.tr,m.cx,m.fm⟩:=by
 unfold DF ee Hv;rw[aa Fn,aa Fn,aa Fn,aa Fn];congr 1;by_cases h:zo (ab p.l m.pc).op 64 (m.r (ab p.l m.pc).d) (m.sec (ab p.l m.pc))=ZB
 .rw[ae (.inr ⟨hk,h⟩),ae h]
 .rw[aa (by rintro (h1|h1);omega;exact h h1.2),aa h]
def asA{p:Prog}{m:Ms}(hk:(ab p.l m.pc).k=3)(h:zo (ab p.l m.pc).op 64 (m.r (ab p.l m.pc).d) (m.sec (ab p.l m.pc))=ZB):DF p m=⟨m.rg,m.st,(AO m.pc (ab p.l m.pc)).1,m.an,m.tr,m.cx,m.fm⟩:=by rw[asC hk,ae h]
def asB{p:Prog}{m:Ms}(hk:(ab p.l m.pc).k=3)(h:zo (ab p.l m.pc).op 64 (m.r (ab p.l m.pc).d) (m.sec (ab p.l m.pc))=ZC):DF p m=⟨m.rg,m.st,Ac .add .i64 m.pc 1,m.an,m.tr,m.cx,m.fm⟩:=by rw[asC hk,aa (by rw[h];decide)]
def auY{p:Prog}{m:Ms}(hk:(ab p.l m.pc).k=4):DF p m=⟨m.rg,m.st,(AO m.pc (ab p.l m.pc)).1,m.an,m.tr,m.cx,m.fm⟩:=by unfold DF ee Hv;rw[aa Fn,aa Fn,aa Fn,aa Fn,ae (.inl hk)]
def auX{p:Prog}{m:Ms}(hk:(ab p.l m.pc).k=5):DF p m={m.call (ab p.l m.pc)with pc:=Ac .add .i64 m.pc 1}:=by unfold DF ee Hv;rw[aa Fn,aa Fn,aa Fn,ae hk,aa Fn]
def mI{p:Prog}{m:Ms}(ho:kf p cx fu=0)(h:RunAt p cx an fu left m)(hf:fu<=10000)(hl:0<left){k:Int}(hh:halt p m=k)(hk:k≠0):
  Cm p cx an fu=(⟨k,if k=1 then m.r 0 else 0,m.cx,m.tr,Ac .sub .i64 left 1⟩,0):=by
 have e1:Ac .sub .i64 left 1=left-1:=by have:=h.hi;exact GE Fn Fn
 unfold Cm;rw[aa (by simp[ho]),h.rn,alC hl (by rw[hh];exact hk),e1,hh];rfl
def akL{p:Prog}{m:Ms}(ho:kf p cx fu=0)(h:RunAt p cx an fu left m)(hl:¬0<left):
  Cm p cx an fu=(⟨0,0,m.cx,m.tr,left⟩,0):=by
 have e0:left=0:=by have:=h.lo;omega
 subst e0;unfold Cm;rw[aa (by simp[ho]),h.rn,alB h.lo hl];rfl
def aha{p:Prog}(h0:(aY p).2=0)(h1:(cx.length:Int)=p.ctx)(h2:0<=fu)(h3:fu<=10000):kf p cx fu=0:=by unfold kf;rw[aa (by simp[h0]),aa Fn]
def um{p:Prog}(h:kf p cx fu=e)(he:e≠0):Cm p cx an fu=(⟨0,0,[],[],0⟩,e):=by unfold Cm;rw[ae (by rw[h];exact he),h];rfl
def nN{p:Prog}(h0:(aY p).2=0)(h1:(cx.length:Int)≠p.ctx\/fu<0\/10000<fu):kf p cx fu=2:=by unfold kf;rw[aa (by simp[h0]),ae h1]
def abv{p:Prog}(h0:(aY p).2≠0):kf p cx fu=(aY p).2:=by unfold kf;rw[ae h0]
def putS(W:Win b l a n)(hl:l.length<=1048576)(v:Int)(hk:k<n.toNat):
  st (putL l (a-b).toNat v k) (Ac .add .i64 (a-b) (k:Int)) 0 (ZG .u8 (Ac .shr .u64 v (Ac .mul .i64 8 (k:Int))))=putL l (a-b).toNat v (k+1):=by
 rw[(W.byte hl hk).1];have:=W.lo;rw[show a-b+(k:Int)=(((a-b).toNat+k:Nat):Int) by omega];rfl
def mulE(hk:k<8):Ac .mul .i64 8 (k:Int)=((8*k:Nat):Int):=by show IntKind.i64.wrap (8*(k:Int))=_;rw[GE Fn Fn];omega
def Qp{i:Nat}(h:i<m)(hm:m<=maxLen):Ac .add .i64 (i:Int) 1=((i+1:Nat):Int):=by have:maxLen<=9223372036854775807:=ST;rw[show Ac .add .i64 (i:Int) 1=(i:Int)+1 from GE Fn Fn];omega
def xm{p:Prog}(h:(aY p).2=0):0<=p.ctx/\p.ctx<=256:=by
 unfold aY at h;split at h
 .exact Xo
 .rename_i hc;have hc:(decide (0<=p.ctx)&&decide (p.ctx<=256))=ZB:=by simpa using hc
  simpa using hc
def dx{p:Prog}(hp:p.l.length<=maxLen)(Aj:(aY p).2=0)(h0:0<=i)(h1:i<(p.l.length:Int)):A2 (ab p.l i)=ZB:=by
 obtain⟨_,A8,_⟩:=cL hp Aj;obtain⟨n,rfl⟩:=cj h0;have hb:=A8 n Fn;unfold lU at hb;split at hb
 .cases hb
 next h=>simpa using h
def iV{pc:Int}(h:A2 (ab l pc)=ZB):0<=gt l pc 5/\gt l pc 5<=10/\0<=gt l pc 6/\gt l pc 6<=10 /\ -32768<=gt l pc 7/\gt l pc 7<=32767/\0<=gt l pc 0/\gt l pc 0<=6:=cz h
def acR{x:Ins}(h:A2 x=ZB)(hk:x.k=1\/x.k=2):aR (ZG .i64 x.sz)=ZB:=by
 have hs:aR x.sz=ZB:=by
  unfold A2 cA at h;rcases hk with hk|hk<;>simp[hk]at h
  .exact h.2.1.1
  .exact h.2.1
 have:=bR hs;rw[GE Fn Fn];exact hs
def atQ{c f:LL}(hc:c.length<=256)(hf:f.length=64):(Gn [] c f []).fit:=⟨rfl,rfl,rfl,rfl,rfl,rfl,rfl,rfl,by show 0<=_;omega,hc,hf,by show 0<=_;omega⟩
def ah3(h:1<=n):inr b [] a n=ZC:=by
 unfold inr;by_cases h1:b<=a
 .rw[dm h1,ff (by show¬a-b+n<=0;omega)];rfl
 .rw[ff h1];rfl
def vS:∀n:Nat,n<2048->∀m:Nat,m<11->A6 (n:Int) (m:Int)=n.testBit m:=by decide +kernel
def at9:∀n:Nat,n<2048->0<=Ip (n:Int)/\(Ip (n:Int)).toNat<2048/\∀j:Nat,j<11->(Ip (n:Int)).toNat.testBit j=(decide (j=0)||(decide (5<j)&&n.testBit j)):=by decide +kernel
def qS:∀d:Nat,d<11->AN (d:Int)=((2 ^ d:Nat):Int):=by decide +kernel
def M7{a b:Nat}(ha:a<2048)(hb:b<2048):Ac .or .i64 (a:Int) (b:Int)=((a ||| b:Nat):Int):=by
 have h:a ||| b<2 ^ 11:=Nat.or_lt_two_pow ha hb;rw[T3];show(ZL 64 a ||| BitVec.ofInt 64 b).toInt=_;rw[BitVec.ofInt_natCast,BitVec.ofInt_natCast,<-BitVec.ofNat_or];have e:(BitVec.ofNat 64 (a ||| b)).toNat=a ||| b:=by rw[BitVec.toNat_ofNat];exact Nat.mod_eq_of_lt Fn
 rw[BitVec.toInt_eq_toNat_of_lt (by rw[e];omega),e]
def aro{a b:Nat}(ha:a<2048)(h:∀j:Nat,j<11->a.testBit j=ZB->b.testBit j=ZB):Ac .andNot .i64 (a:Int) (b:Int)=0:=by
 rw[kM];show(ZL 64 a &&& ~~~ ZL 64 b).toInt=0;rw[BitVec.ofInt_natCast,BitVec.ofInt_natCast];have e:(BitVec.ofNat 64 a &&& ~~~ BitVec.ofNat 64 b)=0#64:=BitVec.eq_of_getLsbD_eq fun i hi=>by
  simp only[BitVec.getLsbD_and,BitVec.getLsbD_not,BitVec.getLsbD_ofNat,BitVec.getLsbD_zero,hi,decide_true,Bool.true_and];by_cases h1:i<11
  .cases e:a.testBit i with
   |false=>simp
   |true=>rw[h i h1 e];simp
  .rw[Nat.testBit_lt_two_pow (nr ha (YU ST Fn:2 ^ 11<=2 ^ i))];simp
 rw[e];rfl
def dC(m:Ms):Snap:=⟨m.r 0,m.r 1,m.r 2,m.r 3,m.r 4,m.r 5,m.r 6,m.r 7,m.r 8,m.r 9,m.r 10,m.st,gt m.fm 0 0,gt m.fm 1 0,gt m.fm 2 0,gt m.fm 3 0,gt m.fm 4 0,gt m.fm 5 0,gt m.fm 6 0,gt m.fm 7 0,gt m.fm 8 0,gt m.fm 9 0,gt m.fm 10 0,gt m.fm 11 0,gt m.fm 12 0,gt m.fm 13 0,gt m.fm 14 0,gt m.fm 15 0,gt m.fm 16 0,gt m.fm 17 0,gt m.fm 18 0,gt m.fm 19 0,gt m.fm 20 0,gt m.fm 21 0,gt m.fm 22 0,gt m.fm 23 0,gt m.fm 24 0,gt m.fm 25 0,gt m.fm 26 0,gt m.fm 27 0,gt m.fm 28 0,gt m.fm 29 0,gt m.fm 30 0,gt m.fm 31 0,gt m.fm 32 0,gt m.fm 33 0,gt m.fm 34 0,gt m.fm 35 0,gt m.fm 36 0,gt m.fm 37 0,gt m.fm 38 0,gt m.fm 39 0,gt m.fm 40 0,gt m.fm 41 0,gt m.fm 42 0,gt m.fm 43 0,gt m.fm 44 0,gt m.fm 45 0,gt m.fm 46 0,gt m.fm 47 0,gt m.fm 48 0,gt m.fm 49 0,gt m.fm 50 0,gt m.fm 51 0,gt m.fm 52 0,gt m.fm 53 0,gt m.fm 54 0,gt m.fm 55 0,gt m.fm 56 0,gt m.fm 57 0,gt m.fm 58 0,gt m.fm 59 0,gt m.fm 60 0,gt m.fm 61 0,gt m.fm 62 0,gt m.fm 63 0⟩
def avR(m:Ms):UP (dC m)=(List.range 64).map fun k:Nat=>gt m.fm (k:Int) 0:=by kernel_rfl
def nj(m:Ms)(h0:0<=i)(h1:i<=63):dt (dC m) i=gt m.fm i 0:=by rw[<-aq0 (dC m) h0 h1,avR,bZ,js,List.getElem?_range Fn];show gt m.fm ((i.toNat:Nat):Int) 0=_;rw[Int.toNat_of_nonneg h0]
structure WM(p:Prog)(m:Ms):Prop where
 rl:m.rg.length=11
 rv:∀v∈m.rg,0<=v/\v<=18446744073709551615
 st:∃n:Nat,m.st=(n:Int)/\n<2048
 an:RowsIn [ZA .u64] m.an
 cx:RowsIn [ZA .u8] m.cx
 cl:(m.cx.length:Int)=p.ctx
 fm:RowsIn [ZA .u8] m.fm
 fl:m.fm.length=64
def WM.r{p:Prog}{m:Ms}(h:WM p m)(i:Int):0<=m.r i/\m.r i<=18446744073709551615:=by
 unfold Ms.r;rw[bZ];cases e:m.rg[i.toNat]? with
 |none=>exact⟨Int.le_refl _,by decide⟩
 |some v=>exact h.rv v (fI e)
def xr(x:Snap)(j:Nat):Int:=[x.r0,x.r1,x.r2,x.r3,x.r4,x.r5,x.r6,x.r7,x.r8,x.r9,x.r10].getD j 0
def aaD(s:Sta)(x:Snap):Ar s x=ZB↔Az s=ZB/\(∀j:Nat,j<=10->rok x.set j (Ao s j) (xr x j)=ZB)/\∀k:Nat,k<=7->aU (nu s k) (be x k)=ZB:=by
 unfold Ar;simp only[ne];constructor
 .intro⟨h,a0,a1,a2,a3,a4,a5,a6,a7,a8,a9,a10,b0,b1,b2,b3,b4,b5,b6,b7⟩;refine⟨h,fun j hj=> ?_,fun k hk=> ?_⟩
  .have:j=0\/j=1\/j=2\/j=3\/j=4\/j=5\/j=6\/j=7\/j=8\/j=9\/j=10:=by omega
   rcases this with rfl|rfl|rfl|rfl|rfl|rfl|rfl|rfl|rfl|rfl|rfl
   all_goals first|exact a0|exact a1|exact a2|exact a3|exact a4|exact a5|exact a6|exact a7|exact a8|exact a9|exact a10
  .have:k=0\/k=1\/k=2\/k=3\/k=4\/k=5\/k=6\/k=7:=by omega
   rcases this with rfl|rfl|rfl|rfl|rfl|rfl|rfl|rfl
   all_goals first|exact b0|exact b1|exact b2|exact b3|exact b4|exact b5|exact b6|exact b7
 .intro⟨h,a,b⟩;exact⟨h,a 0 Fn,a 1 Fn,a 2 Fn,a 3 Fn,a 4 Fn,a 5 Fn,a 6 Fn,a 7 Fn,a 8 Fn,a 9 Fn,a 10 Fn,b 0 Fn,b 1 Fn,b 2 Fn,b 3 Fn,b 4 Fn,b 5 Fn,b 6 Fn,b 7 Fn⟩
def SH(s:Sta)(m:Ms):Prop:=Ar s (dC m)=ZB
def Pt(m:Ms)(hj:j<=10):xr (dC m) j=m.r j:=by have:j=0\/j=1\/j=2\/j=3\/j=4\/j=5\/j=6\/j=7\/j=8\/j=9\/j=10:=Fn;rcases this with rfl|rfl|rfl|rfl|rfl|rfl|rfl|rfl|rfl|rfl|rfl<;>rfl
def ia(s:Sta)(m:Ms):SH s m↔Az s=ZB/\(∀j:Nat,j<=10->rok m.st j (Ao s j) (m.r j)=ZB)/\∀k:Nat,k<=7->aU (nu s k) (be (dC m) k)=ZB:=by refine(aaD s (dC m)).trans ⟨fun h=>⟨h.1,fun j hj=>Pt m hj▸h.2.1 j hj,h.2.2⟩,fun h=>⟨h.1,fun j hj=>(Pt m hj).symm▸h.2.1 j hj,h.2.2⟩⟩
def aah(s:Sta)(d:Int)(t:Ty)(hj:j<=10):Ao (BX s d t) j=D8 (d==(j:Int)) t (Ao s j):=by have:j=0\/j=1\/j=2\/j=3\/j=4\/j=5\/j=6\/j=7\/j=8\/j=9\/j=10:=Fn;rcases this with rfl|rfl|rfl|rfl|rfl|rfl|rfl|rfl|rfl|rfl|rfl<;>rfl
def ae3(s:Sta)(d:Int)(t:Ty)(k:Int):nu (BX s d t) k=nu s k:=rfl
def aaq{m m':Ms}(h:m'.fm=m.fm)(k:Nat):be (dC m') k=be (dC m) k:=by
 have e:∀m:Ms,be (dC m) k=be (dC ⟨[],0,0,[],[],[],m.fm⟩) k:=fun m=>by unfold be dC;split<;>rfl
 rw[e m,e m',h]
def SH.may{s:Sta}{m:Ms}(h:SH s m):Az s=ZB:=((ia s m).1 h).1
def SH.reg{s:Sta}{m:Ms}(h:SH s m){j:Int}(h0:0<=j)(h1:j<=10):((Ao s j).k=0\/A6 m.st j=ZB)/\aU (Ao s j) (m.r j)=ZB:=by obtain⟨n,rfl⟩:=cj h0;have q:=((ia s m).1 h).2.1 n Fn;unfold rok at q;rw[ne,fy,cQ]at q;exact q
def SH.set{s:Sta}{m:Ms}(h:SH s m){n:Nat}(hn:m.st=(n:Int))(As:n<2048)(hl:m.rg.length=11)(d0:0<=d)(d1:d<=10){t:Ty}(ht:aU t v=ZB)(hm:Az (BX s d t)=ZB):SH (BX s d t) (m.set d v):=by
 obtain⟨e,rfl⟩:=cj d0;obtain⟨_,h2,h3⟩:=(ia s m).1 h;refine(ia _ _).2 ⟨hm,fun j hj=> ?_,fun k hk=> ?_⟩
 .have EE:(m.set (e:Int) v).st=((n ||| 2 ^ e:Nat):Int):=by
   show Ac .or .i64 m.st (AN (e:Int))=_;rw[hn,qS e Fn,M7 As (Nat.pow_lt_pow_right ST (by omega:e<11))]
  have hlt2:n ||| 2 ^ e<2048:=Nat.or_lt_two_pow (n:=11) As (Nat.pow_lt_pow_right ST Fn);rw[aah s _ t hj,EE];have q:=h2 j hj;rw[hn]at q;unfold rok at q ⊢;rw[vS _ As _ Fn]at q;rw[vS _ hlt2 _ Fn,Nat.testBit_or,Nat.testBit_two_pow];by_cases c:e=j
  .subst c;rw[show((e:Int)==(e:Int))=ZB from beq_self_eq_true _,amc];rw[show(m.set (e:Int) v).r (e:Int)=v by
    show(m.rg.set e v).getD e 0=v;rw[bZ,List.getElem?_set_self Fn];rfl,ht]
   simp
  .rw[show((e:Int)==(j:Int))=ZC from jJ.2 Fn,amd];rw[show(m.set (e:Int) v).r (j:Int)=m.r j by
    show(m.rg.set e v).getD j 0=m.rg.getD j 0;rw[bZ,pB c,<-bZ]]
   rw[ne,fy]at q ⊢;exact⟨q.1.imp_right fun h=>by rw[h];rfl,q.2⟩
 .rw[ae3,aaq (m':=m.set (e:Int) v) (m:=m) rfl];exact h3 k hk
def mo{p:Prog}{i:Nat}(hl:p.l.length<=maxLen)(h:(aY p).2=0)(hi:i<p.l.length){s:Sta}:∀q∈(bD p i s).1,0<=q.1/\q.1<(p.l.length:Int):=by
 intro q hq;unfold bD at hq;split at hq
 .cases hq
 .split at hq
  .rcases ZY.1 hq with hq|hq
   .exact xU hl h hi q hq
   .exact ad2 hl h hi q hq
  .cases hq
def aea{p:Prog}:∀(n:Nat) (last:Int) (r:VR),(jq p n last r).2.2.2=0->(jq p n last r).1.length=p.l.length/\(jq p n last r).2.1.length=p.l.length:=by
 have hd:∀T,(me p T).1.length=p.l.length/\(me p T).2.1.length=p.l.length:=fun T=>by simp[me]
 intro n
 induction n with
 |zero=>
   intro last r h;by_cases hw:r.w=0
   .rw[iy hw];exact hd _
   .rw[lD hw]at h;cases h
 |succ n ih=>
   intro last r h;by_cases hw:r.w=0
   .rw[iy hw];exact hd _
   .by_cases he:(bD p (CO r.w) (aq r.T (CO r.w))).2=0
    .rw[nn hw he]at h ⊢;exact ih _ _ h
    .rw[px hw he]at h;exact ai h he
def zX{p:Prog}(h:(AC p).2.2.2=0):(AC p).1.length=p.l.length/\(AC p).2.1.length=p.l.length:=by
 by_cases hk:(aY p).2=0
 .unfold AC at h ⊢;rw[ae hk]at h ⊢;exact aea _ _ _ h
 .unfold AC at h;rw[aa hk]at h;exact ai h hk
structure GT(t:Ty):Prop where
 ok:Bh t=ZB
 wf:t.s.wf
def gt_nil:GT tnil:=⟨rfl,⟨⟨⟨by decide,by decide⟩,⟨by decide,by decide⟩,⟨by decide,by decide⟩,⟨by decide,by decide⟩⟩,⟨⟨by decide,by decide⟩,⟨by decide,by decide⟩⟩⟩⟩
def zu(h:Bf s=ZB)(w:s.wf):GT (DQ s):=⟨by
 unfold Bh;rw[aa (show¬(DQ s).k=0 by show¬(1:Int)=0;decide),ae (show(DQ s).k=1 from rfl)];show(Bf s&&_)=ZB;rw[h];rfl,w⟩
def ajD:Bf vall=ZB:=by decide +kernel
def gt_scal:GT tscal:=zu ajD sX
def ajx{t:Ty}(h:cr t=ZB):t.s.wf:=by unfold cr at h;simp only[ne,cQ]at h;obtain⟨h1,h2,h3,h4,h5,h6⟩:=h;refine⟨⟨?_,?_,?_,?_⟩,⟨?_,?_⟩⟩<;>(first|(show _<=t.ul/\t.ul<=_;omega)|(show _<=t.uh/\t.uh<=_;omega)|(show _<=t.sl/\t.sl<=_;omega)|(show _<=t.sh/\t.sh<=_;omega)|(show _<=t.v/\t.v<=_;omega)|(show _<=t.m/\t.m<=_;omega))
def aik{t:Ty}(hk:t.k=2\/t.k=3)(h:Bh t=ZB):GT t:=⟨h,ajx (yb h hk).1⟩
def zt(w:s.wf):GT (DQ (Cj s)):=zu jE (pu w)
def ajw{a b:Sc}(ha:a.wf)(hb:b.wf):(if w=ZB then DJ a b else jF a b).wf:=by
 split
 .unfold DJ;split
  .exact pu (jo (adY (b:=b.r) ha.r) (kF _ _))
  .exact sX
 .unfold jF;split
  .exact pu (jo (zT ha.r hb.r) (kF _ _))
  .exact sX
def db{a b:Ty}(ha:GT a)(hb:GT b):GT (cP w a b):=by
 refine⟨tv ha.ok hb.ok,?_⟩;unfold cP ek;split
 .exact gt_nil.wf
 split
 .exact gt_scal.wf
 split
 .exact ajw (w:=w) ha.wf hb.wf
 .exact gt_nil.wf
def al4{t:Int}(h:0<=t/\t<=18446744073709551615):(H9 t).wf:=pu (jo ⟨(⟨Int.le_refl 0,by show(0:Int)<=_;decide⟩:0<=(0:Int)/\(0:Int)<=18446744073709551615),h,fw.2.2.1,fw.2.2.2⟩ ⟨(⟨Int.le_refl 0,by show(0:Int)<=_;decide⟩:0<=(0:Int)/\(0:Int)<=18446744073709551615),h⟩)
def sk(n:Int):GT (DQ (Db n)):=by refine zu jE (al4 ?_);have h:(min (max n 1) 8).toNat=1\/(min (max n 1) 8).toNat=2\/(min (max n 1) 8).toNat=3\/(min (max n 1) 8).toNat=4\/(min (max n 1) 8).toNat=5\/(min (max n 1) 8).toNat=6\/(min (max n 1) 8).toNat=7\/(min (max n 1) 8).toNat=8:=Fn;rcases h with h|h|h|h|h|h|h|h<;>rw[h]<;>decide
def avP{w:Int}{a b:Sc}(ha:a.wf)(hb:b.wf):GT (DQ (Hy op w a b)):=by
 unfold Hy;split
 .split
  .exact zt (jo (zU ha.r hb.r) (zS ha.k hb.k _ _))
  .split
   .exact zt (jo (zR (nm ha) (nm hb)) (zS (nm ha).k (nm hb).k _ _))
   .exact zu jE (al4 ⟨by decide,by decide⟩)
 .exact gt_scal
def ane{a b:Sc}(ha:a.wf)(hb:b.wf):GT (DQ (Eu cc a b)):=by
 unfold Eu;split
 .refine zt (jo (xT ha.r hb.r) ?_);unfold Vp;split
  .exact td _ _
  .exact ha.k
 .exact gt_scal
def gt_k{t:Ty}(h:GT t)(hp:Av t=ZC):t.s.sl<=t.s.sh:=by
 unfold Av at hp;rw[Bool.or_eq_false_iff]at hp;rcases fX h.ok with hk|hk|hk|hk
 .have q:=h.ok;unfold Bh at q;rw[ae hk]at q;unfold cr at q;simp only[ne,cQ]at q;show t.sl<=t.sh;omega
 .have q:=zZ (yc h.ok hk);exact((dr _).1 q).2
 .rw[hk]at hp;simp at hp
 .rw[hk]at hp;simp at hp
def ab0{t b:Ty}{q:Bool}(h:GT t)(hb:GT b)(hp:Av t=ZB)(DU:Av b=ZC):GT (oe t b.s q):=by
 unfold oe;split
 .rename_i hc;obtain⟨c1,c2⟩:=hc;have hk:t.k=2\/t.k=3:=by
   unfold Av at hp;simpa using hp
  obtain⟨e1,e2,e3,e4⟩:=yb h.ok hk;have e5:=gt_k hb DU;rw[ne,aE,aE]at c1;have HP:(ar t b.s q).lo<=(ar t b.s q).hi:=by
   unfold ar B7 B6;cases q
   .show IntKind.i64.wrap (t.lo+b.s.sl)<=ZG .i64 (t.hi+b.s.sh);rw[aT,aT];omega
   .show IntKind.i64.wrap (t.lo+ZG .i64 (0-b.s.sh))<=ZG .i64 (t.hi+ZG .i64 (0-b.s.sl));rw[aT,aT,aT,aT];omega
  refine aik (t:=ar t b.s q) hk ?_;unfold BK at c2;simp only[ne,aE]at c2;unfold Bh;have KX:¬(ar t b.s q).k=0:=by show¬t.k=0;omega
  have ES:¬(ar t b.s q).k=1:=by show¬t.k=1;omega
  rw[aa KX,aa ES,ae (show(ar t b.s q).k=2\/(ar t b.s q).k=3 from hk)];simp only[ne,aE];exact⟨e1,HP,c2.1.1,c2.2.2⟩
 .exact gt_scal
def atL{x:Ins}{a b:Ty}(ha:GT a)(hb:GT b):GT (Dv x a b):=by
 unfold Dv;split
 .exact hb
 have hA:GT (Im x a b):=by unfold Im;split<;>assumption
 have hB:GT (In x b):=by
  unfold In;split
  .exact zu XZ (sW ⟨by decide,by decide⟩)
  .exact hb
 unfold bi;split
 .exact avP hA.wf hB.wf
 rename_i hn;split
 next h=>refine ab0 hA hB ?_ h.2.1;rw[h.2.1]at hn;simpa using hn
 split
 next h=>refine ab0 hB hA ?_ h.2.1;rw[h.2.1]at hn;simpa using hn
 split
 .exact gt_scal
 .exact sk 4
structure GA(s:Sta):Prop where
 r0:GT s.r0
 r1:GT s.r1
 r2:GT s.r2
 r3:GT s.r3
 r4:GT s.r4
 r5:GT s.r5
 r6:GT s.r6
 r7:GT s.r7
 r8:GT s.r8
 r9:GT s.r9
 r10:GT s.r10
 s0:GT s.s0/\tset s.s0=ZB
 s1:GT s.s1/\tset s.s1=ZB
 s2:GT s.s2/\tset s.s2=ZB
 s3:GT s.s3/\tset s.s3=ZB
 s4:GT s.s4/\tset s.s4=ZB
 s5:GT s.s5/\tset s.s5=ZB
 s6:GT s.s6/\tset s.s6=ZB
 s7:GT s.s7/\tset s.s7=ZB
def GA.may{s:Sta}(h:GA s):Az s=ZB:=by unfold Az;rw[h.r0.ok,h.r1.ok,h.r2.ok,h.r3.ok,h.r4.ok,h.r5.ok,h.r6.ok,h.r7.ok,h.r8.ok,h.r9.ok,h.r10.ok,h.s0.2,h.s1.2,h.s2.2,h.s3.2,h.s4.2,h.s5.2,h.s6.2,h.s7.2];rfl
def gz{c:Bool}{t u:Ty}(h1:GT t)(h2:GT u):GT (D8 c t u):=by cases c;exact h2;exact h1
def GA.reg{s:Sta}(h:GA s){t:Ty}(ht:GT t)(d:Int):GA (BX s d t):=⟨gz ht h.r0,gz ht h.r1,gz ht h.r2,gz ht h.r3,gz ht h.r4,gz ht h.r5,gz ht h.r6,gz ht h.r7,gz ht h.r8,gz ht h.r9,gz ht h.r10,h.s0,h.s1,h.s2,h.s3,h.s4,h.s5,h.s6,h.s7⟩
def GA.nth{s:Sta}(h:GA s)(b0:0<=d)(b1:d<=10):GT (Ao s d):=ajI h.r0 h.r1 h.r2 h.r3 h.r4 h.r5 h.r6 h.r7 h.r8 h.r9 h.r10 b0 b1
def GA.slot{s:Sta}(h:GA s)(n:Int):GT (nu s n):=by unfold nu;split;exact h.s0.1;split;exact h.s1.1;split;exact h.s2.1;split;exact h.s3.1;split;exact h.s4.1;split;exact h.s5.1;split;exact h.s6.1;exact h.s7.1
def GA.load{s:Sta}(h:GA s)(lo hi z:Int):GT (oG s lo hi z):=by
 unfold oG;split
 .split
  .exact h.slot _
  .exact sk z
 .exact gt_nil
def GA.put{s:Sta}(h:GA s){t:Ty}(ht:GT t)(hs:tset t=ZB)(p:Int->Bool):GA (BC s p t):=by
 have q:∀(c:Bool) (u:Ty),(GT u/\tset u=ZB)->GT (if c=ZB then t else u)/\tset (if c=ZB then t else u)=ZB:=fun c u hu=>by
  cases c
  .exact hu
  .exact⟨ht,hs⟩
 exact⟨h.r0,h.r1,h.r2,h.r3,h.r4,h.r5,h.r6,h.r7,h.r8,h.r9,h.r10,q _ _ h.s0,q _ _ h.s1,q _ _ h.s2,q _ _ h.s3,q _ _ h.s4,q _ _ h.s5,q _ _ h.s6,q _ _ h.s7⟩
def GA.store{s:Sta}(h:GA s){z:Int}{t:Ty}(ht:GT t)(he:nv s lo hi z t=0):GA (jd s lo hi z t):=by
 unfold nv at he;split at he
 .rename_i hc;unfold jd;rw[ae hc];split
  .exact h.put ht hc.2 _
  .exact h.put gt_scal vn _
 .cases he
def GA.join{a b:Sta}(ha:GA a)(hb:GA b)(w:Bool):GA (iO w a b):=by
 rw[(oh ha.may hb.may).1];exact⟨db ha.r0 hb.r0,db ha.r1 hb.r1,db ha.r2 hb.r2,db ha.r3 hb.r3,db ha.r4 hb.r4,db ha.r5 hb.r5,db ha.r6 hb.r6,db ha.r7 hb.r7,db ha.r8 hb.r8,db ha.r9 hb.r9,db ha.r10 hb.r10,
  ⟨db ha.s0.1 hb.s0.1,fd ha.s0.2 hb.s0.2⟩,⟨db ha.s1.1 hb.s1.1,fd ha.s1.2 hb.s1.2⟩,⟨db ha.s2.1 hb.s2.1,fd ha.s2.2 hb.s2.2⟩,⟨db ha.s3.1 hb.s3.1,fd ha.s3.2 hb.s3.2⟩,⟨db ha.s4.1 hb.s4.1,fd ha.s4.2 hb.s4.2⟩,⟨db ha.s5.1 hb.s5.1,fd ha.s5.2 hb.s5.2⟩,⟨db ha.s6.1 hb.s6.1,fd ha.s6.2 hb.s6.2⟩,⟨db ha.s7.1 hb.s7.1,fd ha.s7.2 hb.s7.2⟩⟩
def GA.call{s:Sta}(h:GA s):GA (Qx s):=⟨gt_scal,gt_nil,gt_nil,gt_nil,gt_nil,gt_nil,h.r6,h.r7,h.r8,h.r9,h.r10,h.s0,h.s1,h.s2,h.s3,h.s4,h.s5,h.s6,h.s7⟩
def atK(v:Int):GT (DQ (Cb (ZG .u64 v))):=by have h:0<=ZG .u64 v/\IntKind.u64.wrap v<=18446744073709551615:=YC;exact zu (eR (th h)) (sW h)
def GA.b2{s:Sta}(h:GA s){x:Ins}(b0:0<=x.s)(b1:x.s<=10):GT (cy x s):=by
 unfold cy;split
 .exact h.nth b0 b1
 .exact atK _
def GA.mid{p:Prog}{x:Ins}{s:Sta}(h:GA s)(b0:0<=x.d)(b1:x.d<=10)(b2:0<=x.s)(b3:x.s<=10)(he:(BD p x s).2=0):GA (BD p x s).1:=by
 unfold BD at he ⊢;split
 .exact h.reg (atL (h.nth b0 b1) (h.b2 b2 b3)) _
 rename_i h0;rw[aa h0]at he;split
 .rename_i h1;rw[ae h1]at he;split
  .rename_i hw;rw[ae hw]at he;unfold Sx;split
   .exact(h.reg (sk _) _).reg (GA.load (h.reg (sk _) _) _ _ _) _
   .exact h.reg (sk _) _
  .exact h
 rename_i h1;rw[aa h1]at he;split
 .rename_i h2;rw[ae h2]at he;split
  .rename_i hw;rw[ae hw]at he;unfold SA at he ⊢;split
   next h3=>rw[ae h3]at he;exact h.store (h.nth b2 b3) he
   .exact h
  .exact h
 split
 .exact h.call
 .exact h
def GA.way{s:Sta}(h:GA s){go:Int}{b:Ty}{t k:Bool}(b0:0<=d)(b1:d<=10)(hb:GT b):∀q∈C0 s d (Ao s d) b t go cc k,GA q.2:=by
 intro q hq;unfold C0 at hq;split at hq
 .split at hq
  .rw[dA.1 hq];exact h.reg (ane (h.nth b0 b1).wf hb.wf) _
  .cases hq
 .rw[dA.1 hq];exact h
def GA.sides{p:Prog}{s:Sta}(h:GA s)(hx:A2 (ab p.l i)=ZB):∀q∈(bD p i s).1,GA q.2:=by
 obtain⟨b0,b1,b2,b3⟩:0<=(ab p.l i).d/\(ab p.l i).d<=10/\0<=(ab p.l i).s/\(ab p.l i).s<=10:=by have b:=cz hx;exact⟨b.1,b.2.1,b.2.2.1,b.2.2.2.1⟩
 intro q hq;unfold bD at hq;split at hq
 .cases hq
 split at hq
 .rename_i he;have hm:=h.mid b0 b1 b2 b3 he;have hb:=h.b2 b2 b3;rcases ZY.1 hq with hq|hq
  .unfold gF at hq;split at hq
   .cases hq
   .exact hm.way b0 b1 hb q hq
  .unfold ib at hq;split at hq
   .exact hm.way b0 b1 hb q hq
   .cases hq
 .cases hq
end Go.Proofs.YtgolejfhoefeaaaGreatDoor
