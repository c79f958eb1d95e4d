import Derived.WalkKit
import Derived.WalkSpells
import Derived.Deep.QuietTactic
import Derived.BigQuiet
set_option maxRecDepth 100000
set_option maxHeartbeats 8000000
set_option linter.defProp false
set_option linter.unusedVariables false
set_option linter.unusedSimpArgs false
namespace Go.Proofs.YtgolejfhoefeaaaGreatDoor
open Go.IntKind renaming wrap->ZG,signed->YV,bits->ZX
abbrev LL:=List (List Int)
variable {p:Prop}{w0 w:World}
def aI{a b:Prop}(h:a)(k:b):a/\b:=⟨h,k⟩
open Go.RowKit
def B0(h:p):Hid p:=h
def bk{k:IntKind}{a b:Int}(h:a=b):Ending.returned (.int k a)=Ending.returned (.int k b):=by rw[h]
def tN{a b:Bool}(h:a=b):Ending.returned (.bool a)=Ending.returned (.bool b):=by rw[h]
def Ext(w0 w:World):Prop:=Below w0.heap.size w0 w
def Ext.refl(w:World):Ext w w:=Below.refl _ _
def Ext.size(h:Ext w0 w):w0.heap.size<=w.heap.size:=Below.size h
def Ext.step{w':World}(h:Ext w0 w)(hb:Below w.heap.size w w'):Ext w0 w':=Below.trans h (hb.mono h.size)
def Ext.trans{w':World}(h:Ext w0 w)(hb:Ext w w'):Ext w0 w':=h.step hb
def Ext.alloc(h:Ext w0 w)(o:Obj):Ext w0 (w.alloc o):=Below.alloc h h.size o
def Ext.drew(h:Ext w0 w):Ext w0 w.drew:=Below.drew h
def Ext.setCell(h:Ext w0 w){p:Addr}(hp:w0.heap.size<=p.block)(u:Value):Ext w0 (w.setCell p u):=Below.setCell h hp u
def Ext.cell(h:Ext w0 w){p:Addr}{v:Value}(hc:w0.cell? p=some v):w.cell? p=some v:=(Below.cell h (World.block_lt_of_cell? w0 p hc)).trans hc
def w_u8(v:Int):ZG .u8 v=v % 256:=by simp[IntKind.wrap,ZX,YV]
def arx(v:Int):IntKind.u16.wrap v=v % 65536:=by simp[IntKind.wrap,ZX,YV]
def aT(v:Int):ZG .u64 v=v % 18446744073709551616:=by simp[IntKind.wrap,ZX,YV]
def w_i8(v:Int):IntKind.i8.wrap v=(v+128) % 256-128:=by simp only[IntKind.wrap,ZX,YV];simp;split<;>omega
def auu(v:Int):IntKind.i16.wrap v=(v+32768) % 65536-32768:=by simp only[IntKind.wrap,ZX,YV];simp;split<;>omega
def aP(v:Int):ZG .i64 v=(v+9223372036854775808) % 18446744073709551616-9223372036854775808:=by rw[IntKind.wrap_i64]
def w_32(v:Int):wrap32 v=(v+2147483648) % 4294967296-2147483648:=by unfold wrap32;rfl
def Pr(v:Int):wrap64 v=(v+9223372036854775808) % 18446744073709551616-9223372036854775808:=by unfold wrap64;rfl
def ard(b:Int)(h0:0<=b)(h1:b<=18446744073709551615):bits .and .u64 b 63=b % 64:=by obtain⟨n,rfl⟩:=Int.eq_ofNat_of_zero_le h0;rw[show(63:Int)=((63:Nat):Int)from rfl,u64_and_nat _ _ (by omega) (by omega),nat_mask6];rfl
def are(b:Int)(h0:0<=b)(h1:b<=18446744073709551615):bits .and .u64 b 31=b % 32:=by obtain⟨n,rfl⟩:=Int.eq_ofNat_of_zero_le h0;rw[show(31:Int)=((31:Nat):Int)from rfl,u64_and_nat _ _ (by omega) (by omega),nat_mask5];rfl
def and1(b:Int)(h0:0<=b)(h1:b<=18446744073709551615):bits .and .u64 b 1=b % 2:=by obtain⟨n,rfl⟩:=Int.eq_ofNat_of_zero_le h0;rw[show(1:Int)=((1:Nat):Int)from rfl,u64_and_nat _ _ (by omega) (by omega),nat_mask1];rfl
def at8(b:Int)(h0:0<=b)(h1:b<=18446744073709551615):bits .and .u64 b 255=b % 256:=by obtain⟨n,rfl⟩:=Int.eq_ofNat_of_zero_le h0;rw[show(255:Int)=((255:Nat):Int)from rfl,u64_and_nat _ _ (by omega) (by omega),nat_mask8];rfl
def ai0(k:Nat)(hk:k<=64)(b:Int)(h0:0<=b)(h1:b<=18446744073709551615):bits .and .u64 b (2 ^ k-1)=b % 2 ^ k:=by obtain⟨n,rfl⟩:=Int.eq_ofNat_of_zero_le h0;have hp:(2:Nat) ^ k<=2 ^ 64:=Nat.pow_le_pow_right (by omega) hk;have hq:1<=(2:Nat) ^ k:=Nat.one_le_two_pow;rw[show((2:Int) ^ k-1)=((2 ^ k-1:Nat):Int)from by rw[Int.ofNat_sub hq];simp,u64_and_nat _ _ (by omega) (by omega),Nat.and_two_pow_sub_one_eq_mod];simp
def ne:=@Bool.and_eq_true
def Ak:=@Nat.eq_of_beq_eq_true
def Ab:=@of_decide_eq_false
def Ah:=@of_decide_eq_true
def Ay:=@Option.map_eq_some_iff
def Be:=@List.cons.injEq
def AH:=@List.getElem?_eq_getElem
def Ct:=@List.all_eq_true
def A9:=@List.getElem?_append_left
def Bl:=@List.getElem?_append_right
def cZ:=@List.getElem?_eq_some_iff
def aj:=@Bool.eq_iff_iff
def cy:=@List.getElem?_cons_zero
def lY:=@List.getElem?_cons_succ
def bv:=@Option.some.injEq
def cY:=@Option.bind_eq_some_iff
def cf:=@List.getElem?_eq_none
def eg:=@List.length_append
def bR:=@List.mem_cons_self
def cM:=@List.mem_cons_of_mem
def aB:=@decide_eq_true_eq
def dg:=@decide_eq_true
def eY:=@decide_eq_false
def cS:=@Int.toNat_natCast
def cd:=@Int.eq_ofNat_of_zero_le
def jn:=@List.getElem?_map
def pp:=@List.getElem?_set_ne
def ef:=@List.getElem?_set
def fD:=@List.mem_of_getElem?
def nc:=@Nat.lt_of_lt_of_le
def cX:=@Nat.le_trans
def cL:=@beq_iff_eq
def lx:=@Array.getElem?_toList
def aq:=@Bool.false_and
def ap:=@Bool.and_false
def bV:=@List.getD_eq_getElem?_getD
def bj:=@Bool.or_false
def hG:=@Array.getElem?_eq_some_iff
def fk:=@Bool.or_eq_true
def bt:=@Nat.lt_or_ge
def iw:=@Array.getD_eq_getD_getElem?
def bJ:=@Nat.zero_add
def bW:=@Int.not_lt
def dv:=@List.mem_singleton
def Fd(h:p:=by (rw[hj];clear Aj Aq g g1 Ba AZ;unfold bf;simp only[ah];unfold ao B4 B3 Au;dsimp only[Ty.s];repeat' split)<;>first|rfl|(exfalso;simp_all [aa]<;>(try simp_all [Ac])<;>omega)):p:=h
def Fn(h:p:=by omega):p:=h
def Id(h:p:=by (unfold Bg;simp_all [cg,Bool.and_assoc]<;>first|(intros;omega)|(rw[aj];simp;done))):p:=h
def IO(h:p:=by (simp_all [be,jm,cD,cE]<;>(rw[aj];simp;first|omega|simp[*]))):p:=h
def LT(h:p:=by (simp_all [aD,Au,aN,BK,Ac,Ck,aP,aT]<;>first|omega|(rw[aj];simp;omega))):p:=h
def Or(h:p:=by simp[Ad,Op.operands]):p:=h
def Os(h:p:=by (unfold Az tset;simp_all)):p:=h
def ST(h:p:=by decide):p:=h
def Xn(h:p:=by have:=hp.2.2.1;omega):p:=h
def Xo(h:p:=by cases h):p:=h
def Xp(h:p:=by simp[Ad,Op.operands,Call.operands];exact .inr (by simpa using hx)):p:=h
def Xq(h:p:=by (unfold ct BI;simp_all<;>omega)):p:=h
def Xr(h:p:=by cases ht):p:=h
def Xs(h:p:=by rw[Aw z0,Aw z1,Aw z2,Aw z3,Aw z4,Aw z5,Aw z6,Aw z7];exact jv z0 z1 z2 z3 z4 z5 z6 z7):p:=h
def Xt(h:p:=by (refine zb ?_;unfold aN;rw[aj];simp at *;omega)):p:=h
def Xu(h:p:=by rw[<-Array.toArray_toList (xs:=c.argTypes),C5]):p:=h
def Xv(h:p:=by (unfold Dw AQ;simp_all)):p:=h
def Xw(h:p:=by (unfold il gv;simp_all<;>omega)):p:=h
def Xx(h:p:=by simpa using h):p:=h
def Xy(h:p:=by unfold AG;rw[Al];rfl):p:=h
def Xz(h:p:=by simpa using hx):p:=h
def XA(h:p:=by (simp_all [Ac])):p:=h
def XB(h:p:=by rename_i e;exact .inl ⟨e,by simpa using hF.symm⟩):p:=h
def XC(h:p:=by simp;omega):p:=h
def XD(h:p:=by (have q:=cr hp;simp at *;omega)):p:=h
def XE(h:p:=by simpa using h1):p:=h
def XF(h:p:=by (unfold AF;simp_all [bS,bD];try (intros;omega))):p:=h
def XG(h:p:=by (unfold bc AQ;simp_all)):p:=h
def XH(h:p:=by (have q:=cr c0;have z:=fI x.imm;simp[Ac,aP]at *;omega)):p:=h
def XI(h:p:=by (unfold cj;simp_all)):p:=h
def XJ(h:p:=by simp[execOp,Ad,Instr.alloc,Sem.run_bind,hz,newVar,newRow,newObj,Sem.run]):p:=h
def XK(h:p:=by rw[hs];intros;simp):p:=h
def XL(h:p:=by exact⟨rfl,DS,q2,rfl⟩):p:=h
def XM(h:p:=by have:=bL (n:=ZG .i64 (gt p.l pc 3)) Gk;omega):p:=h
def XN(h:p:=by (unfold A3 fz gi;simp_all<;>omega)):p:=h
def XO(h:p:=by exact .inr (.inr ⟨by omega,by omega,by simpa[h1,h2]using HZ⟩)):p:=h
def XP(h:p:=by split<;>split at h1<;>split at h2<;>split<;>omega):p:=h
def XQ(h:p:=by repeat (first|exact .unsup _|exact .bounds _ _ _ _|split)):p:=h
def XR(h:p:=by simpa using h2):p:=h
def XS(h:p:=by simpa using hi):p:=h
def XT(h:p:=by simpa using hm):p:=h
def XU(h:p:=by cases h2):p:=h
def XV(h:p:=by unfold Addr.add;split<;>simp_all):p:=h
def XW(h:p:=by cases hF):p:=h
def XX(h:p:=by rename_i HF c;simpa[E.L]using HF c x h):p:=h
def XY(h:p:=by exact pj (by omega) (by omega) (by omega) (by omega)):p:=h
def XZ(h:p:=by decide +kernel):p:=h
def X0(h:p:=by (refine zb ?_;rw[aj];simp at *;omega)):p:=h
def X1(h:p:=by rw[Nat.add_assoc,Nat.add_comm 1 m]at hs;exact hs):p:=h
def X2(h:p:=by simpa using hu):p:=h
def X3(h:p:=by rw[h];simp):p:=h
def X4(h:p:=by rw[hr]at e;cases e):p:=h
def X7(h:p:=by subst hb;simp only[if_true,r3,hq]):p:=h
def X8(h:p:=by (unfold AF;simp_all [bS];try (intros;omega))):p:=h
def X9(h:p:=by simp[hb,show¬b=old from fun e=>hb e.symm]):p:=h
def Ya(h:p:=by (unfold jp eA yV;simp_all [Ac])):p:=h
def Yb(h:p:=by (unfold A2;simp_all)):p:=h
def Yc(h:p:=by have q1:=Ab c0;have q2:=Ab c1;simp;omega):p:=h
def Yd(h:p:=by exact(Alike.size _).bind fun _=>.pure _):p:=h
def Ye(h:p:=by rw[if_neg e,if_neg (fun e'=>e e'.symm)]):p:=h
def Yf(h:p:=by rw[W.len];exact Nat.le_refl _):p:=h
def Yg(h:p:=by simp only[maxLen];omega):p:=h
def Yh(h:p:=by simpa using hl):p:=h
def Yi(h:p:=by simp[RE.rs]):p:=h
def Yj(h:p:=by simpa[Ce]using hi):p:=h
def Yk(h:p:=by rw[s1];exact c3):p:=h
def Yl(h:p:=by rw[s1];exact Cp):p:=h
def Ym(h:p:=by exact .inr (.inl ⟨by omega,h2⟩)):p:=h
def Yn(h:p:=by cases hp):p:=h
def Yo(h:p:=by rw[hl,Nat.succ_mul];omega):p:=h
def Yp(h:p:=by (unfold AX;simp_all [Ac])):p:=h
def Yq(h:p:=by simpa using hc):p:=h
def Yr(h:p:=by exact⟨rfl,rfl,Nat.le_succ _⟩):p:=h
def Ys(h:p:=by rw[if_neg h2,if_neg (by omega)]):p:=h
def Yt(h:p:=by rw[if_neg hq,if_neg (by omega)]):p:=h
def Yu(h:p:=by rw[dv.1 Bj];intro p hp;cases hp):p:=h
def Yv(h:p:=by subst e;simp only[if_true,As,h]):p:=h
def Yw(h:p:=by (unfold jr fh;simp_all [lr,zy])):p:=h
def Yx(h:p:=by have:kw.lv+1<=An.lv:=B9;omega):p:=h
def Yy(h:p:=by subst e;simp only[if_true,As]):p:=h
def Yz(h:p:=by rw[(X5 U4 F4).1]at c;cases c):p:=h
def YA(h:p:=by rw[(X5 U4 F4).2]at c;cases c):p:=h
def YB(h:p:=by simpa using hy):p:=h
def YC(h:p:=by simpa using Bu):p:=h
def YD(h:p:=by rw[CC];simpa using Ib):p:=h
def YE(h:p:=by simpa using he):p:=h
def YF(h:p:=by exact .bounds _ _ _ _):p:=h
def YG(h:p:=by rw[aT];omega):p:=h
def YH(h:p:=by (unfold fJ;simp_all<;>omega)):p:=h
def YI(h:p:=by unfold Addr.add;split<;>rfl):p:=h
def YJ(h:p:=by rw[Bo b e];exact h.nor b hF):p:=h
def YK(h:p:=by unfold aC;rw[h];simp):p:=h
def YL(h:p:=by (unfold Bf;simp_all)):p:=h
def YM(h:p:=by exact iha.2.1 k c h.1 x hx):p:=h
def YN(h:p:=by simpa[Nat.blt_eq]using hs):p:=h
def YO(h:p:=by rw[<-HR.out,L0.out,L1.out]):p:=h
def YP(h:p:=by split<;>omega):p:=h
def YQ(h:p:=by exact⟨s',Co,Al⟩):p:=h
end Go.Proofs.YtgolejfhoefeaaaGreatDoor
