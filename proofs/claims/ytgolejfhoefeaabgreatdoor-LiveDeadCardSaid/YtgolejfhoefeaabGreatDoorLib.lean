import Derived.WalkKit
import Derived.WalkSpells
import Derived.Deep.QuietTactic
import Derived.BigQuiet
set_option maxRecDepth 100000
set_option maxHeartbeats 8000000
set_option linter.defProp false
set_option linter.unusedVariables false
set_option linter.unusedSimpArgs false
namespace Go.Proofs.YtgolejfhoefeaabGreatDoor
open Go.IntKind renaming signed->ZQ,bits->YS
abbrev LL:=List (List Int)
variable {p:Prop}{w0 w:World}
def aI{a b:Prop}(h:a)(k:b):a/\b:=⟨h,k⟩
open Go.RowKit
def BX(h:p):Hid p:=h
def bD{k:IntKind}{a b:Int}(h:a=b):Ending.returned (.int k a)=Ending.returned (.int k b):=by rw[h]
def alg{a b:Bool}(h:a=b):Ending.returned (.bool a)=Ending.returned (.bool b):=by rw[h]
def Ext(w0 w:World):Prop:=Below w0.heap.size w0 w
def Ext.refl(w:World):Ext w w:=Below.refl _ _
def Ext.size(h:Ext w0 w):w0.heap.size<=w.heap.size:=Below.size h
def Ext.step{w':World}(h:Ext w0 w)(hb:Below w.heap.size w w'):Ext w0 w':=Below.trans h (hb.mono h.size)
def Ext.trans{w':World}(h:Ext w0 w)(hb:Ext w w'):Ext w0 w':=h.step hb
def Ext.alloc(h:Ext w0 w)(o:Obj):Ext w0 (w.alloc o):=Below.alloc h h.size o
def Ext.drew(h:Ext w0 w):Ext w0 w.drew:=Below.drew h
def Ext.setCell(h:Ext w0 w){p:Addr}(hp:w0.heap.size<=p.block)(u:Value):Ext w0 (w.setCell p u):=Below.setCell h hp u
def Ext.cell(h:Ext w0 w){p:Addr}{v:Value}(hc:w0.cell? p=some v):w.cell? p=some v:=(Below.cell h (World.block_lt_of_cell? w0 p hc)).trans hc
def w_u8(v:Int):Go.IntKind.wrap .u8 v=v % 256:=by simp[IntKind.wrap,YS,ZQ]
def asC(v:Int):IntKind.u16.wrap v=v % 65536:=by simp[IntKind.wrap,YS,ZQ]
def bg(v:Int):Go.IntKind.wrap .u64 v=v % 18446744073709551616:=by simp[IntKind.wrap,YS,ZQ]
def w_i8(v:Int):IntKind.i8.wrap v=(v+128) % 256-128:=by simp only[IntKind.wrap,YS,ZQ];simp;split<;>omega
def avl(v:Int):IntKind.i16.wrap v=(v+32768) % 65536-32768:=by simp only[IntKind.wrap,YS,ZQ];simp;split<;>omega
def aK(v:Int):Go.IntKind.wrap .i64 v=(v+9223372036854775808) % 18446744073709551616-9223372036854775808:=by rw[IntKind.wrap_i64]
def w_32(v:Int):wrap32 v=(v+2147483648) % 4294967296-2147483648:=by unfold wrap32;rfl
def N8(v:Int):wrap64 v=(v+9223372036854775808) % 18446744073709551616-9223372036854775808:=by unfold wrap64;rfl
def Wq(b:Int)(h0:0<=b)(h1:b<=18446744073709551615):bits .and .u64 b 63=b % 64:=by obtain⟨n,rfl⟩:=Int.eq_ofNat_of_zero_le h0;rw[show(63:Int)=((63:Nat):Int)from rfl,u64_and_nat _ _ (by omega) (by omega),nat_mask6];rfl
def Ws(b:Int)(h0:0<=b)(h1:b<=18446744073709551615):bits .and .u64 b 31=b % 32:=by obtain⟨n,rfl⟩:=Int.eq_ofNat_of_zero_le h0;rw[show(31:Int)=((31:Nat):Int)from rfl,u64_and_nat _ _ (by omega) (by omega),nat_mask5];rfl
def ne:=@Bool.and_eq_true
def Ah:=@Nat.eq_of_beq_eq_true
def Af:=@of_decide_eq_false
def Ae:=@of_decide_eq_true
def Av:=@Option.map_eq_some_iff
def AY:=@List.cons.injEq
def Az:=@List.getElem?_eq_getElem
def Co:=@List.all_eq_true
def AW:=@List.getElem?_append_left
def Bc:=@List.getElem?_append_right
def bX:=@List.getElem?_eq_some_iff
def ar:=@Bool.eq_iff_iff
def cH:=@List.getElem?_cons_zero
def lu:=@List.getElem?_cons_succ
def aU:=@Option.some.injEq
def cW:=@Option.bind_eq_some_iff
def bN:=@List.getElem?_eq_none
def cQ:=@List.length_append
def bG:=@List.mem_cons_self
def cm:=@List.mem_cons_of_mem
def ax:=@decide_eq_true_eq
def cP:=@decide_eq_true
def fB:=@decide_eq_false
def cy:=@Int.toNat_natCast
def cj:=@Int.eq_ofNat_of_zero_le
def iO:=@List.getElem?_map
def nE:=@List.getElem?_set_ne
def dY:=@List.getElem?_set
def ew:=@List.mem_of_getElem?
def nD:=@Nat.lt_of_lt_of_le
def cO:=@Nat.le_trans
def cb:=@beq_iff_eq
def lr:=@Array.getElem?_toList
def bh:=@List.getD_eq_getElem?_getD
def bo:=@Bool.or_false
def fL:=@Array.getElem?_eq_some_iff
def eu:=@Bool.or_eq_true
def bn:=@Nat.lt_or_ge
def iz:=@Array.getD_eq_getD_getElem?
def be:=@Nat.zero_add
def bR:=@Int.not_lt
def cV:=@List.mem_singleton
def ae:=@if_pos
def aa:=@if_neg
def ak:=@absurd
def jq:=@beq_eq_false_iff_ne
def mf:=@decide_eq_false_iff_not
def aW:=@if_true
def dz:=@if_false
def Fd(h:p:=by (rw[hj];clear An As g g1 Bm A7;unfold bf;simp only[am];unfold au B3 B2 Au;dsimp only[Ty.s];repeat' split)<;>first|rfl|(exfalso;simp_all [ab]<;>(try simp_all [Ac])<;>omega)):p:=h
def Fn(h:p:=by omega):p:=h
def Id(h:p:=by (simp_all [aY,jm,cL,cM]<;>(rw[ar];simp;first|omega|simp[*]))):p:=h
def Za(h:p:=by (unfold BJ;simp_all [dZ,Bool.and_assoc]<;>first|(intros;omega)|(rw[ar];simp;done))):p:=h
def LT(h:p:=by (simp_all [aG,Au,bc,BK,Ac,Cf,aK,bg]<;>first|omega|(rw[ar];simp;omega))):p:=h
def Or(h:p:=by simp[Ab,Op.operands]):p:=h
def Os(h:p:=by decide):p:=h
def ST(h:p:=by cases h):p:=h
def Xn(h:p:=by simp[Ab,Op.operands,Call.operands];exact .inr (by simpa using hx)):p:=h
def Xo(h:p:=by cases ht):p:=h
def Xp(h:p:=by (unfold cE BF;simp_all<;>omega)):p:=h
def Xq(h:p:=by (unfold AV tset;simp_all)):p:=h
def Xr(h:p:=by (have q:=aZ hp;have z:=bH x.imm;simp[Ac,aK]at *;omega)):p:=h
def Xs(h:p:=by rw[<-Array.toArray_toList (xs:=c.argTypes),Ci]):p:=h
def Xt(h:p:=by (unfold C7 AC;simp_all)):p:=h
def Xu(h:p:=by (refine zb ?_;unfold bc;rw[ar];simp at *;omega)):p:=h
def Xv(h:p:=by (unfold im gE;simp_all<;>omega)):p:=h
def Xw(h:p:=by simpa using h):p:=h
def Xx(h:p:=by simpa using hx):p:=h
def Xy(h:p:=by unfold AF;rw[Ai];rfl):p:=h
def Xz(h:p:=by simp;omega):p:=h
def XA(h:p:=by (simp_all [Ac])):p:=h
def XB(h:p:=by (unfold aV AC;simp_all)):p:=h
def XC(h:p:=by simpa using h1):p:=h
def XD(h:p:=by rename_i e;exact .inl ⟨e,by simpa using hF.symm⟩):p:=h
def XE(h:p:=by (have q:=aZ c0;have z:=bH x.imm;simp[Ac,aK]at *;omega)):p:=h
def XF(h:p:=by (unfold cz;simp_all)):p:=h
def XG(h:p:=by simp[execOp,Ab,Instr.alloc,Sem.run_bind,hz,newVar,newRow,newObj,Sem.run]):p:=h
def XH(h:p:=by rw[hs];intros;simp):p:=h
def XI(h:p:=by (unfold AL fJ gv;simp_all<;>omega)):p:=h
def XJ(h:p:=by simpa using h2):p:=h
def XK(h:p:=by split<;>split at h1<;>split at h2<;>split<;>omega):p:=h
def XL(h:p:=by repeat (first|exact .unsup _|exact .bounds _ _ _ _|split)):p:=h
def XM(h:p:=by simpa using hi):p:=h
def XN(h:p:=by simpa using hm):p:=h
def XO(h:p:=by cases h2):p:=h
def XP(h:p:=by unfold Addr.add;split<;>simp_all):p:=h
def XQ(h:p:=by cases hF):p:=h
def XR(h:p:=by rename_i Hq c;simpa[E.L]using Hq c x h):p:=h
def XS(h:p:=by rw[List.length_take];omega):p:=h
def XT(h:p:=by exact pP (by omega) (by omega) (by omega) (by omega)):p:=h
def XU(h:p:=by (refine zb ?_;rw[ar];simp at *;omega)):p:=h
def XV(h:p:=by rw[Nat.add_assoc,Nat.add_comm 1 m]at hs;exact hs):p:=h
def XW(h:p:=by simpa using hu):p:=h
def XX(h:p:=by rw[h];simp):p:=h
def XY(h:p:=by decide +kernel):p:=h
def XZ(h:p:=by rw[hr]at e;cases e):p:=h
def X0(h:p:=by (unfold AI;simp_all [dd];try (intros;omega))):p:=h
def X1(h:p:=by simp[hb,show¬b=old from fun e=>hb e.symm]):p:=h
def X2(h:p:=by (unfold jt eN zR;simp_all [Ac])):p:=h
def X3(h:p:=by (simp_all)):p:=h
def X4(h:p:=by exact(Alike.size _).bind fun _=>.pure _):p:=h
def X7(h:p:=by rw[q2];decide):p:=h
def X8(h:p:=by simp only[maxLen];omega):p:=h
def X9(h:p:=by (unfold JC AC;simp_all)):p:=h
def Ya(h:p:=by simpa using hl):p:=h
def Yb(h:p:=by subst hb;simp only[aW,r3,hq]):p:=h
def Yc(h:p:=by exact ak PE (by simp[qR h1])):p:=h
def Yd(h:p:=by simp[RE.rs]):p:=h
def Ye(h:p:=by simp[Instr.sliceBounds,Sem.run_bind]):p:=h
def Yf(h:p:=by simpa[B9]using hi):p:=h
def Yg(h:p:=by rw[s1];exact c3):p:=h
def Yh(h:p:=by rw[s1];exact C9):p:=h
def Yi(h:p:=by cases hp):p:=h
def Yj(h:p:=by rw[hl,Nat.succ_mul];omega):p:=h
def Yk(h:p:=by simpa using hc):p:=h
def Yl(h:p:=by simpa using Bh):p:=h
def Ym(h:p:=by exact⟨rfl,rfl,Nat.le_succ _⟩):p:=h
def Yn(h:p:=by rw[aa e,aa (fun e'=>e e'.symm)]):p:=h
def Yo(h:p:=by rw[cV.1 Bi];intro p hp;cases hp):p:=h
def Yp(h:p:=by (unfold jw fx;simp_all [lg,TQ])):p:=h
def Yq(h:p:=by rw[hk];rfl):p:=h
def Yr(h:p:=by rw[(X5 ρ4 F4).1]at c;cases c):p:=h
def Ys(h:p:=by rw[(X5 ρ4 F4).2]at c;cases c):p:=h
def Yt(h:p:=by have:kw.lv+1<=Ak.lv:=B0;omega):p:=h
def Yu(h:p:=by simpa using hy):p:=h
def Yv(h:p:=by rw[B5];simpa using HI):p:=h
def Yw(h:p:=by simpa using he):p:=h
def Yx(h:p:=by exact .bounds _ _ _ _):p:=h
def Yy(h:p:=by rw[bg];omega):p:=h
def Yz(h:p:=by unfold Addr.add;split<;>rfl):p:=h
def YA(h:p:=by rw[Bp b e];exact h.nor b hF):p:=h
def YB(h:p:=by unfold aE;rw[h];simp):p:=h
def YC(h:p:=by exact iha.2.1 k c h.1 x hx):p:=h
def YD(h:p:=by simpa[Nat.blt_eq]using hs):p:=h
def YE(h:p:=by subst e;simp only[aW,Ap,h]):p:=h
def YF(h:p:=by rw[<-HR.out,L0.out,L1.out]):p:=h
def YG(h:p:=by split<;>omega):p:=h
def YH(h:p:=by exact⟨s',Cg,Ai⟩):p:=h
end Go.Proofs.YtgolejfhoefeaabGreatDoor
