import Derived.WalkKit
import Derived.WalkSpells
import Derived.Deep.QuietTactic
import Derived.BigQuiet
set_option maxRecDepth 100000
set_option maxHeartbeats 8000000
set_option linter.defProp false
set_option linter.unusedVariables false
set_option linter.unusedSimpArgs false
namespace Go.Proofs.YtgolejfhoefeaaaGreatDoor
open Go.IntKind renaming wrap->ZG,signed->YT,bits->YW
abbrev LL:=List (List Int)
variable {p:Prop}{w0 w:World}
def aI{a b:Prop}(h:a)(k:b):a/\b:=⟨h,k⟩
open Go.RowKit
def BZ(h:p):Hid p:=h
def bt{k:IntKind}{a b:Int}(h:a=b):Ending.returned (.int k a)=Ending.returned (.int k b):=by rw[h]
def tY{a b:Bool}(h:a=b):Ending.returned (.bool a)=Ending.returned (.bool b):=by rw[h]
def Ext(w0 w:World):Prop:=Below w0.heap.size w0 w
def Ext.refl(w:World):Ext w w:=Below.refl _ _
def Ext.size(h:Ext w0 w):w0.heap.size<=w.heap.size:=Below.size h
def Ext.step{w':World}(h:Ext w0 w)(hb:Below w.heap.size w w'):Ext w0 w':=Below.trans h (hb.mono h.size)
def Ext.trans{w':World}(h:Ext w0 w)(hb:Ext w w'):Ext w0 w':=h.step hb
def Ext.alloc(h:Ext w0 w)(o:Obj):Ext w0 (w.alloc o):=Below.alloc h h.size o
def Ext.drew(h:Ext w0 w):Ext w0 w.drew:=Below.drew h
def Ext.setCell(h:Ext w0 w){p:Addr}(hp:w0.heap.size<=p.block)(u:Value):Ext w0 (w.setCell p u):=Below.setCell h hp u
def Ext.cell(h:Ext w0 w){p:Addr}{v:Value}(hc:w0.cell? p=some v):w.cell? p=some v:=(Below.cell h (World.block_lt_of_cell? w0 p hc)).trans hc
def w_u8(v:Int):ZG .u8 v=v % 256:=by simp[IntKind.wrap,YW,YT]
def arJ(v:Int):IntKind.u16.wrap v=v % 65536:=by simp[IntKind.wrap,YW,YT]
def aW(v:Int):ZG .u64 v=v % 18446744073709551616:=by simp[IntKind.wrap,YW,YT]
def w_i8(v:Int):IntKind.i8.wrap v=(v+128) % 256-128:=by simp only[IntKind.wrap,YW,YT];simp;split<;>omega
def auH(v:Int):IntKind.i16.wrap v=(v+32768) % 65536-32768:=by simp only[IntKind.wrap,YW,YT];simp;split<;>omega
def aT(v:Int):ZG .i64 v=(v+9223372036854775808) % 18446744073709551616-9223372036854775808:=by rw[IntKind.wrap_i64]
def w_32(v:Int):wrap32 v=(v+2147483648) % 4294967296-2147483648:=by unfold wrap32;rfl
def Pk(v:Int):wrap64 v=(v+9223372036854775808) % 18446744073709551616-9223372036854775808:=by unfold wrap64;rfl
def arp(b:Int)(h0:0<=b)(h1:b<=18446744073709551615):bits .and .u64 b 63=b % 64:=by obtain⟨n,rfl⟩:=Int.eq_ofNat_of_zero_le h0;rw[show(63:Int)=((63:Nat):Int)from rfl,u64_and_nat _ _ (by omega) (by omega),nat_mask6];rfl
def arq(b:Int)(h0:0<=b)(h1:b<=18446744073709551615):bits .and .u64 b 31=b % 32:=by obtain⟨n,rfl⟩:=Int.eq_ofNat_of_zero_le h0;rw[show(31:Int)=((31:Nat):Int)from rfl,u64_and_nat _ _ (by omega) (by omega),nat_mask5];rfl
def and1(b:Int)(h0:0<=b)(h1:b<=18446744073709551615):bits .and .u64 b 1=b % 2:=by obtain⟨n,rfl⟩:=Int.eq_ofNat_of_zero_le h0;rw[show(1:Int)=((1:Nat):Int)from rfl,u64_and_nat _ _ (by omega) (by omega),nat_mask1];rfl
def auk(b:Int)(h0:0<=b)(h1:b<=18446744073709551615):bits .and .u64 b 255=b % 256:=by obtain⟨n,rfl⟩:=Int.eq_ofNat_of_zero_le h0;rw[show(255:Int)=((255:Nat):Int)from rfl,u64_and_nat _ _ (by omega) (by omega),nat_mask8];rfl
def ajb(k:Nat)(hk:k<=64)(b:Int)(h0:0<=b)(h1:b<=18446744073709551615):bits .and .u64 b (2 ^ k-1)=b % 2 ^ k:=by obtain⟨n,rfl⟩:=Int.eq_ofNat_of_zero_le h0;have hp:(2:Nat) ^ k<=2 ^ 64:=Nat.pow_le_pow_right (by omega) hk;have hq:1<=(2:Nat) ^ k:=Nat.one_le_two_pow;rw[show((2:Int) ^ k-1)=((2 ^ k-1:Nat):Int)from by rw[Int.ofNat_sub hq];simp,u64_and_nat _ _ (by omega) (by omega),Nat.and_two_pow_sub_one_eq_mod];simp
def ne:=@Bool.and_eq_true
def Ak:=@Nat.eq_of_beq_eq_true
def Ab:=@of_decide_eq_false
def Ah:=@of_decide_eq_true
def Ay:=@Option.map_eq_some_iff
def Be:=@List.cons.injEq
def AH:=@List.getElem?_eq_getElem
def CB:=@List.all_eq_true
def A9:=@List.getElem?_append_left
def Bo:=@List.getElem?_append_right
def cZ:=@List.getElem?_eq_some_iff
def ao:=@Bool.eq_iff_iff
def cD:=@List.getElem?_cons_zero
def mj:=@List.getElem?_cons_succ
def bo:=@Option.some.injEq
def de:=@Option.bind_eq_some_iff
def cn:=@List.getElem?_eq_none
def eo:=@List.length_append
def bW:=@List.mem_cons_self
def cR:=@List.mem_cons_of_mem
def aE:=@decide_eq_true_eq
def dm:=@decide_eq_true
def ff:=@decide_eq_false
def cY:=@Int.toNat_natCast
def cj:=@Int.eq_ofNat_of_zero_le
def js:=@List.getElem?_map
def pB:=@List.getElem?_set_ne
def em:=@List.getElem?_set
def fI:=@List.mem_of_getElem?
def nr:=@Nat.lt_of_lt_of_le
def dd:=@Nat.le_trans
def cQ:=@beq_iff_eq
def lE:=@Array.getElem?_toList
def av:=@Bool.false_and
def au:=@Bool.and_false
def bZ:=@List.getD_eq_getElem?_getD
def bn:=@Bool.or_false
def ig:=@Array.getElem?_eq_some_iff
def fy:=@Bool.or_eq_true
def bC:=@Nat.lt_or_ge
def iB:=@Array.getD_eq_getD_getElem?
def bP:=@Nat.zero_add
def cb:=@Int.not_lt
def dA:=@List.mem_singleton
def ae:=@if_pos
def aa:=@if_neg
def ai:=@absurd
def jJ:=@beq_eq_false_iff_ne
def mi:=@decide_eq_false_iff_not
def bm:=@if_true
def eA:=@if_false
def Fd(h:p:=by (rw[hj];clear Al Aq g g1 Bc A0;unfold bi;simp only[ak];unfold ar B7 B6 Av;dsimp only[Ty.s];repeat' split)<;>first|rfl|(exfalso;simp_all [ab]<;>(try simp_all [Ac])<;>omega)):p:=h
def Fn(h:p:=by omega):p:=h
def Id(h:p:=by (unfold Bh;simp_all [cr,Bool.and_assoc]<;>first|(intros;omega)|(rw[ao];simp;done))):p:=h
def Za(h:p:=by (simp_all [bh,jm,cJ,cK]<;>(rw[ao];simp;first|omega|simp[*]))):p:=h
def LT(h:p:=by (simp_all [aG,Av,aR,BK,Ac,Co,aT,aW]<;>first|omega|(rw[ao];simp;omega))):p:=h
def Or(h:p:=by simp[Ad,Op.operands]):p:=h
def Os(h:p:=by (unfold Az tset;simp_all)):p:=h
def ST(h:p:=by decide):p:=h
def Xn(h:p:=by have:=hp.2.2.1;omega):p:=h
def Xo(h:p:=by cases h):p:=h
def Xp(h:p:=by simp[Ad,Op.operands,Call.operands];exact .inr (by simpa using hx)):p:=h
def Xq(h:p:=by (unfold cA BH;simp_all<;>omega)):p:=h
def Xr(h:p:=by cases ht):p:=h
def Xs(h:p:=by rw[Aw z0,Aw z1,Aw z2,Aw z3,Aw z4,Aw z5,Aw z6,Aw z7];exact jA z0 z1 z2 z3 z4 z5 z6 z7):p:=h
def Xt(h:p:=by (refine zb ?_;unfold aR;rw[ao];simp at *;omega)):p:=h
def Xu(h:p:=by rw[<-Array.toArray_toList (xs:=c.argTypes),C8]):p:=h
def Xv(h:p:=by (unfold Dy AN;simp_all)):p:=h
def Xw(h:p:=by (unfold iu gD;simp_all<;>omega)):p:=h
def Xx(h:p:=by simpa using h):p:=h
def Xy(h:p:=by unfold AG;rw[Aj];rfl):p:=h
def Xz(h:p:=by simpa using hx):p:=h
def XA(h:p:=by (simp_all [Ac])):p:=h
def XB(h:p:=by rename_i e;exact .inl ⟨e,by simpa using hF.symm⟩):p:=h
def XC(h:p:=by simpa using h1):p:=h
def XD(h:p:=by simp;omega):p:=h
def XE(h:p:=by (have q:=cz hp;simp at *;omega)):p:=h
def XF(h:p:=by (unfold AF;simp_all [bX,bI];try (intros;omega))):p:=h
def XG(h:p:=by (unfold bg AN;simp_all)):p:=h
def XH(h:p:=by (have q:=cz c0;have z:=fN x.imm;simp[Ac,aT]at *;omega)):p:=h
def XI(h:p:=by (unfold ct;simp_all)):p:=h
def XJ(h:p:=by simp[execOp,Ad,Instr.alloc,Sem.run_bind,hz,newVar,newRow,newObj,Sem.run]):p:=h
def XK(h:p:=by rw[hs];intros;simp):p:=h
def XL(h:p:=by exact⟨rfl,DT,q2,rfl⟩):p:=h
def XM(h:p:=by have:=bR (n:=ZG .i64 (gt p.l pc 3)) Gd;omega):p:=h
def XN(h:p:=by (unfold A2 fE gu;simp_all<;>omega)):p:=h
def XO(h:p:=by exact .inr (.inr ⟨by omega,by omega,by simpa[h1,h2]using HL⟩)):p:=h
def XP(h:p:=by split<;>split at h1<;>split at h2<;>split<;>omega):p:=h
def XQ(h:p:=by repeat (first|exact .unsup _|exact .bounds _ _ _ _|split)):p:=h
def XR(h:p:=by simpa using h2):p:=h
def XS(h:p:=by simpa using hi):p:=h
def XT(h:p:=by simpa using hm):p:=h
def XU(h:p:=by cases h2):p:=h
def XV(h:p:=by unfold Addr.add;split<;>simp_all):p:=h
def XW(h:p:=by cases hF):p:=h
def XX(h:p:=by rename_i HW c;simpa[E.L]using HW c x h):p:=h
def XY(h:p:=by exact pw (by omega) (by omega) (by omega) (by omega)):p:=h
def XZ(h:p:=by decide +kernel):p:=h
def X0(h:p:=by (refine zb ?_;rw[ao];simp at *;omega)):p:=h
def X1(h:p:=by rw[Nat.add_assoc,Nat.add_comm 1 m]at hs;exact hs):p:=h
def X2(h:p:=by simpa using hu):p:=h
def X3(h:p:=by rw[h];simp):p:=h
def X4(h:p:=by rw[hr]at e;cases e):p:=h
def X7(h:p:=by (unfold AF;simp_all [bX];try (intros;omega))):p:=h
def X8(h:p:=by simp[hb,show¬b=old from fun e=>hb e.symm]):p:=h
def X9(h:p:=by (unfold ju eJ zh;simp_all [Ac])):p:=h
def Ya(h:p:=by (unfold A3;simp_all)):p:=h
def Yb(h:p:=by have q1:=Ab c0;have q2:=Ab c1;simp;omega):p:=h
def Yc(h:p:=by exact(Alike.size _).bind fun _=>.pure _):p:=h
def Yd(h:p:=by rw[W.len];exact Nat.le_refl _):p:=h
def Ye(h:p:=by simp only[maxLen];omega):p:=h
def Yf(h:p:=by simpa using hl):p:=h
def Yg(h:p:=by subst hb;simp only[bm,r3,hq]):p:=h
def Yh(h:p:=by simp[RE.rs]):p:=h
def Yi(h:p:=by simpa[Ci]using hi):p:=h
def Yj(h:p:=by rw[s1];exact c3):p:=h
def Yk(h:p:=by rw[s1];exact Cr):p:=h
def Yl(h:p:=by exact .inr (.inl ⟨by omega,h2⟩)):p:=h
def Ym(h:p:=by cases hp):p:=h
def Yn(h:p:=by rw[hl,Nat.succ_mul];omega):p:=h
def Yo(h:p:=by (unfold AX;simp_all [Ac])):p:=h
def Yp(h:p:=by simpa using hc):p:=h
def Yq(h:p:=by exact⟨rfl,rfl,Nat.le_succ _⟩):p:=h
def Yr(h:p:=by rw[dA.1 Bj];intro p hp;cases hp):p:=h
def Ys(h:p:=by rw[aa e,aa (fun e'=>e e'.symm)]):p:=h
def Yt(h:p:=by (unfold jw fv;simp_all [lB,zJ])):p:=h
def Yu(h:p:=by have:kw.lv+1<=An.lv:=B4;omega):p:=h
def Yv(h:p:=by rw[(X5 U4 F4).1]at c;cases c):p:=h
def Yw(h:p:=by rw[(X5 U4 F4).2]at c;cases c):p:=h
def Yx(h:p:=by simpa using hy):p:=h
def Yy(h:p:=by simpa using Bu):p:=h
def Yz(h:p:=by rw[Cy];simpa using Ih):p:=h
def YA(h:p:=by simpa using he):p:=h
def YB(h:p:=by exact .bounds _ _ _ _):p:=h
def YC(h:p:=by rw[aW];omega):p:=h
def YD(h:p:=by (unfold fO;simp_all<;>omega)):p:=h
def YE(h:p:=by unfold Addr.add;split<;>rfl):p:=h
def YF(h:p:=by rw[Bn b e];exact h.nor b hF):p:=h
def YG(h:p:=by unfold aF;rw[h];simp):p:=h
def YH(h:p:=by (unfold Bf;simp_all)):p:=h
def YI(h:p:=by exact iha.2.1 k c h.1 x hx):p:=h
def YJ(h:p:=by simpa[Nat.blt_eq]using hs):p:=h
def YK(h:p:=by subst e;simp only[bm,As,h]):p:=h
def YL(h:p:=by rw[<-HR.out,L0.out,L1.out]):p:=h
def YM(h:p:=by split<;>omega):p:=h
def YN(h:p:=by exact⟨s',Cp,Aj⟩):p:=h
end Go.Proofs.YtgolejfhoefeaaaGreatDoor
