import Derived.Test.YtgolejfhoefeaaaGreatDoorAfZ
import Derived.Test.YtgolejfhoefeaaaGreatDoorAeZ
import Derived.Test.YtgolejfhoefeaaaGreatDoorProg
import Derived.Laws.Externs
set_option maxRecDepth 100000
set_option maxHeartbeats 8000000
set_option linter.defProp false
set_option linter.unusedSimpArgs false
set_option linter.unusedVariables false
namespace Go.Proofs.YtgolejfhoefeaaaGreatDoor
open Bool renaming true->ZB,false->ZC
open Nat renaming reduceAdd->ZD,reduceSub->ZH
open Go.Proofs.Tryz renaming prog->ZF
open Go.IntKind renaming wrap->ZG
open List renaming append_nil->YR,length_cons->YS,mem_append_right->YX
open Int renaming ofNat_lt->ZZ
open Go Go.RowKit
variable {p:Prog}{x:Ins}{s S:Sta}{k n v0 m key:Nat}{left v a b d fu z c e:Int}{U:Env}{cx an T A L:LL}{q q2:Prop}{t:Ty}{w:Bool}{fr:List Int}{ks:List CK}{args:E}
def orZ(h0:0<=d)(h1:d<=10):Ac .or .i64 (AQ d) 0=AQ d/\Ac .or .i64 0 (AQ d)=AQ d:=by obtain⟨n,rfl⟩:=cd h0;have e:(2:Nat) ^ n<2048:=Nat.pow_lt_pow_right ST (by omega:n<11);rw[qI n Fn];exact⟨by rw[show(0:Int)=((0:Nat):Int)from rfl,M8 e ST,Nat.or_zero],by rw[show(0:Int)=((0:Nat):Int)from rfl,M8 ST e,Nat.zero_or]⟩
def amE(hx:A3 x=ZB):bc x=Dw x:=by obtain⟨d0,d1,s0,s1,_,_,k0,k6⟩:=cr hx;unfold bc Dw;rw[if_pos hx];have hk:x.k=0\/x.k=1\/x.k=2\/x.k=3\/x.k=4\/x.k=5\/x.k=6:=Fn;rcases hk with h|h|h|h|h|h|h<;>by_cases HL:x.op=11<;>cases hb:x.br<;>simp[h,HL,hb,(orZ d0 d1).1,(orZ s0 s1).2]
def akx{m:Ms}(hx:A3 x=ZB)(W:WM p m)(H:SH s m)(hu:fx s (Dw x).toNat=ZC):Ac .andNot .i64 (bc x) m.st=0:=by obtain⟨R,hR,hR2⟩:=alV hx;obtain⟨n,hn,As⟩:=W.st;rw[amE hx,hR,hn];rw[hR,cS]at hu;refine arc hR2 fun j hj hb=> ?_;have q:=(H.reg (j:=(j:Int)) Fn Fn).1;have h0:=xN hu (d:=(j:Int)) Fn Fn (by rw[cS];exact hb);rw[hn,vI n As j hj]at q;exact q.resolve_left h0
def apu(hx:A3 x=ZB)(hk:x.k=0\/x.k=3)(hu:fx s (Dw x).toNat=ZC):((x.k=3\/x.op≠11)->(Ao s x.d).k≠0)/\(x.br=ZB->(Ao s x.s).k≠0):=by
 obtain⟨d0,d1,s0,s1,_⟩:=cr hx;obtain⟨d,hd⟩:=cd d0;obtain⟨e,he⟩:=cd s0;have pd:(2:Nat) ^ d<2048:=Nat.pow_lt_pow_right ST (by omega:d<11);have pe:(2:Nat) ^ e<2048:=Nat.pow_lt_pow_right ST (by omega:e<11);rw[<-amE hx]at hu;have hw:bc x=(((if x.k=3\/x.op≠11 then 2 ^ d else 0) ||| (if x.br=ZB then 2 ^ e else 0):Nat):Int):=by
  unfold bc;rw[if_pos hk,hd,he,qI d Fn,qI e Fn];cases x.br with
  |true=>
    rw[if_pos rfl,if_pos rfl];by_cases c:x.k=3\/x.op≠11
    .rw[if_pos c,if_pos c,M8 pd pe]
    .rw[if_neg c,if_neg c,show(0:Int)=((0:Nat):Int)from rfl,M8 ST pe]
  |false=>
    simp only[Bool.false_eq_true,if_false,Nat.or_zero];by_cases c:x.k=3\/x.op≠11
    .rw[if_pos c,if_pos c]
    .rw[if_neg c,if_neg c];rfl
 rw[hw,cS]at hu;refine⟨fun c=>xN hu d0 d1 ?_,fun c=>xN hu s0 s1 ?_⟩
 .rw[hd,cS,Nat.testBit_or,if_pos c,Nat.testBit_two_pow];simp
 .rw[he,cS,Nat.testBit_or,if_pos c,Nat.testBit_two_pow];simp
def yl{m:Ms}(hx:A3 x=ZB)(W:WM p m)(H:SH s m):aQ (cn x s) (m.sec x)=ZB/\0<=m.sec x/\m.sec x<=18446744073709551615:=by
 obtain⟨d0,d1,s0,s1,_⟩:=cr hx;unfold Ms.sec;cases hb:x.br with
 |true=>rw[if_pos rfl];exact⟨arf hb (H.reg s0 s1).2,W.r _⟩
 |false=>rw[if_neg (by simp)];exact⟨arg hb,by rw[aT];omega⟩
def at9{m:Ms}(hx:A3 x=ZB)(hk:x.k=0)(W:WM p m)(G:GA s)(H:SH s m)(hu:fx s (Dw x).toNat=ZC):aQ (Dp x (Ao s x.d) (cn x s)) (PW x.op x.w (m.r x.d) (m.sec x))=ZB:=by
 obtain⟨d0,d1,s0,s1,_⟩:=cr hx;obtain⟨r1,r2⟩:=apu hx (.inl hk) hu;obtain⟨q1,q2⟩:=yl hx W H;have ho:=abN hx hk;unfold PW;rw[if_pos ho];refine ad3 (H.reg d0 d1).2 q1 (G.nth d0 d1).wf (G.b2 s0 s1).wf ho (fun c=>r1 (.inr c)) (fun _=> ?_) (W.r _) q2;unfold cn;split
 next hb=>exact r2 hb
 .show(1:Int)≠0;omega
def Ms.set_st{m:Ms}(W:WM p m)(d0:0<=d)(d1:d<=10)(v:Int):∃n:Nat,(m.set d v).st=(n:Int)/\n<2048:=by obtain⟨n,hn,As⟩:=W.st;obtain⟨e,rfl⟩:=cd d0;have pe:(2:Nat) ^ e<2048:=Nat.pow_lt_pow_right ST (by omega:e<11);refine⟨n ||| 2 ^ e,?_,Nat.or_lt_two_pow (n:=11) As pe⟩;show Ac .or .i64 m.st (AQ (e:Int))=_;rw[hn,qI e Fn,M8 As pe]
def WM.set{m:Ms}(W:WM p m)(d0:0<=d)(d1:d<=10)(hv:0<=v/\v<=18446744073709551615):WM p (m.set d v):=⟨by show(m.rg.set _ _).length=11;rw[List.length_set];exact W.rl,fun w hw=>(List.mem_or_eq_of_mem_set hw).elim (W.rv w) (fun e=>e▸hv),Ms.set_st W d0 d1 v,W.an,W.cx,W.cl,W.fm,W.fl⟩
def SH.sets{m:Ms}(W:WM p m)(H:SH s m)(d0:0<=d)(d1:d<=10)(ht:aQ t v=ZB)(G:GA (BU s d t)):SH (BU s d t) (m.set d v):=by obtain⟨n,hn,As⟩:=W.st;exact H.set hn As W.rl d0 d1 ht G.may
def SH.pc{m:Ms}(H:SH s m)(n:Int):SH s {m with pc:=n}:=H
def aq1{m:Ms}(W:WM p m)(G:GA s)(H:SH s m)(ha:m.an.length≠0):SH (Qz s) (m.call x)/\WM p (m.call x):=by
 obtain⟨n,hn,As⟩:=W.st;obtain⟨_,h2,h3⟩:=(gX s m).1 H;have a0:0<=gt m.an 0 0/\gt m.an 0 0<=18446744073709551615:=wW (aqM (fun r hr=>pR (W.an.row r hr) (c:=0) (k:=some .u64) rfl) 0);obtain⟨c1,c2,c3⟩:=atV n As;have EF:(m.call x).st=(((IQ (n:Int)).toNat:Nat):Int):=by show IQ m.st=_;rw[hn,Int.toNat_of_nonneg c1]
 refine⟨(gX _ _).2 ⟨G.call.may,fun j hj=> ?_,fun k hk=> ?_⟩,?_⟩
 .have q:=h2 j hj;rw[hn]at q;unfold rok at q ⊢;rw[vI _ As _ Fn]at q;rw[EF,vI _ c2 _ Fn,c3 j Fn];by_cases j6:5<j
  .have e1:(m.call x).r (j:Int)=m.r (j:Int):=by
    show([gt m.an 0 0,0,0,0,0,0]++m.rg.drop 6).getD j 0=m.rg.getD j 0;rw[bV,Bl XC,List.getElem?_drop,<-bV];congr 1;simp;omega
   have e2:Ao (Qz s) (j:Int)=Ao s (j:Int):=by have:j=6\/j=7\/j=8\/j=9\/j=10:=Fn;rcases this with rfl|rfl|rfl|rfl|rfl<;>rfl
   rw[e1,e2,dg j6,eY (by omega:¬j=0),Bool.true_and,Bool.false_or];exact q
  .have:j=0\/j=1\/j=2\/j=3\/j=4\/j=5:=by omega
   rcases this with rfl|rfl|rfl|rfl|rfl|rfl
   .show((tscal.k==0||_)&&aQ tscal (gt m.an 0 0))=ZB;rw[iu a0.1 a0.2];simp
   all_goals
    show((tnil.k==0||_)&&aQ tnil 0)=ZB;rw[xV (by rfl) (by rfl)];rfl
 .show aQ (ni s k) (aZ (dx (m.call x)) k)=ZB;rw[aag (m':=m.call x) (m:=m) rfl];exact h3 k hk
 .refine⟨?_,fun v hv=> ?_,⟨_,EF,c2⟩,mg W.an _,W.cx,W.cl,W.fm,W.fl⟩
  .show([gt m.an 0 0,0,0,0,0,0]++m.rg.drop 6).length=11;rw[eg,List.length_drop,W.rl];rfl
  .rcases List.mem_append.1 hv with hv|hv
   .simp at hv;rcases hv with rfl|rfl
    .exact a0
    .exact⟨Int.le_refl _,by decide⟩
   .exact W.rv v (List.mem_of_mem_drop hv)
def arL(h:aN z=ZB):ZG .i64 z=z:=by have:=bL h;exact GC Fn Fn
def ani{off size:Int}(hv:0<=v/\v<=18446744073709551615)(hc:0<=c/\c<=256)(ht:aQ t v=ZB)(hw:aD c t off size=ZB):
  (t.k=2\/t.k=3)/\aN size=ZB/\∃o:Int,F8 v off=bQ t+o/\0<=o/\o+size<=(if t.k=2 then c else 64)/\Ac .add .i64 t.lo off<=o/\o<=Ac .add .i64 t.hi off/\Ac .add .i64 t.lo off=t.lo+off/\Ac .add .i64 t.hi off=t.hi+off:=by
 unfold aD BK at hw;simp only[ne,aB]at hw;obtain⟨h1,h2,⟨⟨h3,h4⟩,⟨h5,h6⟩,h7,h8⟩,h9,JX,HL⟩:=hw;have hk:=oA.1 h1;obtain⟨_,t1,t2⟩:=(xU hk).1 ht;refine⟨hk,h2,D9 t v+off,?_,by omega,?_,?_,?_,GC Fn Fn,GC Fn Fn⟩
 .have hb:bQ t=2097152\/bQ t=3145728:=by
   unfold bQ;split
   .exact .inl rfl
   .exact .inr rfl
  rw[sZ]at t1 t2 ⊢;show IntKind.u64.wrap (v+ZG .u64 off)=_;rw[aT,aT];split at HL<;>omega
 .exact Fn
 .rw[show Ac .add .i64 t.lo off=t.lo+off from GC Fn Fn];omega
 .rw[show Ac .add .i64 t.hi off=t.hi+off from GC Fn Fn];omega
def amD{m:Ms}(hf:m.fm.length=64):∀(n i:Nat),i+n<=64->CJ ((m.fm.drop i).take n)=Bm (dx m) (i:Int) n
 |0,i,_=>rfl
 |n+1,i,h=>by have hi:i<m.fm.length:=Fn;rw[List.drop_eq_getElem_cons hi,List.take_succ_cons];show m.fm[i].getD 0 0+256*CJ ((m.fm.drop (i+1)).take n)=dm (dx m) i+256*Bm (dx m) ((i:Int)+1) n;rw[amD hf n (i+1) Fn,mX m Fn Fn];unfold gt;rw[cS,bV (l:=m.fm),AH hi];rfl
def sI{m:Ms}(W:WM p m)(i:Int):0<=dm (dx m) i/\dm (dx m) i<=255:=by
 by_cases h:0<=i/\i<=63
 .rw[mX m h.1 h.2];exact aiJ W.fm i
 .have e:dm (dx m) i=0:=by
   unfold dm
   repeat rw[if_neg Fn]
  rw[e];exact⟨Int.le_refl _,by decide⟩
def Ms.fit{m:Ms}(W:WM p m)(hc:0<=p.ctx/\p.ctx<=256):m.mem.Lim:=(atE (c:=m.cx) (f:=m.fm) (by have:=W.cl;omega) W.fl).lim
def set_set{m:Ms}(W:WM p m)(d0:0<=d)(d1:d<=10)(v:Int):(m.set d v).set d v=m.set d v:=by
 obtain⟨n,hn,As⟩:=W.st;obtain⟨e,rfl⟩:=cd d0;have pe:(2:Nat) ^ e<2048:=Nat.pow_lt_pow_right ST (by omega:e<11);have h1:(m.set (e:Int) v).st=((n ||| 2 ^ e:Nat):Int):=by show Ac .or .i64 m.st (AQ (e:Int))=_;rw[hn,qI e Fn,M8 As pe]
 have h2:((m.set (e:Int) v).set (e:Int) v).st=(m.set (e:Int) v).st:=by show Ac .or .i64 (m.set (e:Int) v).st (AQ (e:Int))=_;rw[h1,qI e Fn,M8 (Nat.or_lt_two_pow (n:=11) As pe) pe,Nat.or_assoc,Nat.or_self]
 have h3:((m.set (e:Int) v).set (e:Int) v).rg=(m.set (e:Int) v).rg:=List.set_set ..;show(⟨((m.set (e:Int) v).set (e:Int) v).rg,((m.set (e:Int) v).set (e:Int) v).st,m.pc,m.an,m.tr,m.cx,m.fm⟩:Ms)=⟨(m.set (e:Int) v).rg,(m.set (e:Int) v).st,m.pc,m.an,m.tr,m.cx,m.fm⟩;rw[h2,h3]
def ap0{m:Ms}(hx:A3 x=ZB)(hk:x.k=1)(hc:0<=p.ctx/\p.ctx<=256)(W:WM p m)(G:GA s)(H:SH s m)(he:(Bz p x s).2=0):
  H4 m.mem (F8 (m.r x.s) x.off) (ZG .i64 x.sz)=0/\SH (Bz p x s).1 (m.set x.d (Fu m.mem (F8 (m.r x.s) x.off) (ZG .i64 x.sz)))/\WM p (m.set x.d (Fu m.mem (F8 (m.r x.s) x.off) (ZG .i64 x.sz))):=by
 obtain⟨d0,d1,s0,s1,_⟩:=cr hx;have GM:=G.mid (p:=p) d0 d1 s0 s1 he;unfold Bz at he GM ⊢;rw[if_neg Fn,if_pos hk]at he GM ⊢;by_cases hw:aD p.ctx (Ao s x.s) x.off x.sz=ZB
 rotate_left
 .rw[if_neg hw]at he;cases he
 rw[if_pos hw]at he GM ⊢;obtain⟨kt,hs,o,ha,o0,o1,lo,hi,Wo,TK⟩:=ani (W.r _) hc (H.reg s0 s1).2 hw;have hz:=arL hs;have hn:=bL hs;rw[hz,ha];have lim:=Ms.fit W hc;obtain⟨n,P1⟩:=cd (show 0<=x.sz by omega);obtain⟨oN,hoN⟩:=cd o0;have row:∃l:LL,m.mem.Row (bQ (Ao s x.s)) l/\inr (bQ (Ao s x.s)) l (bQ (Ao s x.s)+o) x.sz=ZB/\RowsIn [some .u8] l/\((Ao s x.s).k=3->l=m.fm):=by
  rcases kt with kt|kt
  .refine⟨m.cx,?_,?_,W.cx,fun h=>by omega⟩
   .unfold bQ;rw[if_pos kt];exact .inr (.inl ⟨rfl,rfl⟩)
   .rw[if_pos kt]at o1;exact kf.2 ⟨by omega,by have:=W.cl;omega⟩
  .refine⟨m.fm,?_,?_,W.fm,fun _=>rfl⟩
   .unfold bQ;rw[if_neg Fn];exact .inr (.inr (.inl ⟨rfl,rfl⟩))
   .rw[if_neg Fn]at o1;exact kf.2 ⟨by omega,by have:=W.fl;omega⟩
 obtain⟨l,hr,Bq,hu8,hfm⟩:=row;obtain⟨r0,r1⟩:=ar3 lim hr Bq hs;have A0:(BQ (bQ (Ao s x.s)) l (bQ (Ao s x.s)+o) x.sz).length=n:=by have:=(kf.1 Bq).2;unfold BQ;rw[List.length_take,List.length_drop];omega
 have hv:0<=CJ (BQ (bQ (Ao s x.s)) l (bQ (Ao s x.s)+o) x.sz)/\CJ (BQ (bQ (Ao s x.s)) l (bQ (Ao s x.s)+o) x.sz)<256 ^ (BQ (bQ (Ao s x.s)) l (bQ (Ao s x.s)+o) x.sz).length:=yL (wh (mg hu8 _) _);rw[A0]at hv;have IH:aQ (DO (Dc x.sz)) (Fu m.mem (bQ (Ao s x.s)+o) x.sz)=ZB:=by rw[r1];exact iH (sU hn hv.1 (by rw[show x.sz.toNat=n by omega];exact hv.2))
 have Qe:0<=Fu m.mem (bQ (Ao s x.s)+o) x.sz/\Fu m.mem (bQ (Ao s x.s)+o) x.sz<=18446744073709551615:=by
  rw[r1];refine⟨hv.1,?_⟩;have:(256:Int) ^ n<=256 ^ 8:=by
   have h8:n<=8:=Fn;have:=Nat.pow_le_pow_right (show 0<256 by decide) h8
   exact_mod_cast this
  have h9:(256:Int) ^ 8=18446744073709551616:=ST;omega
 refine⟨r0,?_,W.set d0 d1 Qe⟩;have G1:GA (BU s x.d (DO (Dc x.sz))):=G.reg (rV _) _;have H1:=H.sets W d0 d1 IH G1;unfold RZ at he GM ⊢;by_cases k3:(Ao s x.s).k=3
 .rw[if_pos k3]at he GM ⊢;have hf:=hfm k3;have hsm:BJ (BU s x.d (DO (Dc x.sz))) (Ip (Ao s x.s) x) (IT (Ao s x.s) x) x.sz=ZB:=by
   cases e:BJ (BU s x.d (DO (Dc x.sz))) (Ip (Ao s x.s) x) (IT (Ao s x.s) x) x.sz with
   |true=>rfl
   |false=>have Ic:pw (BU s x.d (DO (Dc x.sz))) (Ip (Ao s x.s) x) (IT (Ao s x.s) x) x.sz=0:=he;unfold pw at Ic;rw[e,if_neg (by simp)]at Ic;cases Ic
  have Ij:Fu m.mem (bQ (Ao s x.s)+o) x.sz=Bm (dx (m.set x.d (Fu m.mem (bQ (Ao s x.s)+o) x.sz))) o x.sz.toNat:=by
   have e1:Bm (dx (m.set x.d (Fu m.mem (bQ (Ao s x.s)+o) x.sz))) o x.sz.toNat=Bm (dx m) o x.sz.toNat:=kr _ _ fun j h0 h1=>by rw[if_neg Fn]at o1;rw[mX _ Fn Fn,mX _ Fn Fn];rfl
   rw[e1,r1,hf];unfold BQ;rw[hoN,P1,cS,<-amD W.fl n oN (by rw[if_neg Fn]at o1;omega)];congr 2;congr 1;omega
  have q:=afh hsm H1 (fun i=>sI (W.set d0 d1 Qe) i) lo hi;rw[<-Ij]at q;have H2:=H1.sets (W.set d0 d1 Qe) d0 d1 q GM;rw[set_set W d0 d1]at H2;exact H2
 .rw[if_neg k3];exact H1
def atX(h0:0<=v)(h1:v<=18446744073709551615)(k:Nat)(hk:k<=7):Un v k=aX v (k:Int):=by
 have:k=0\/k=1\/k=2\/k=3\/k=4\/k=5\/k=6\/k=7:=Fn;have H:∀(s:Nat),s<=56->ZG .u8 (Ac .shr .u64 v (s:Int))=v / 2 ^ s % 256:=by
  intro s hs;have e:Ac .shr .u64 v (s:Int)=v / 2 ^ s:=by show v.fdiv (2 ^ min (s:Int).toNat IntKind.u64.bits)=_;rw[show min (s:Int).toNat IntKind.u64.bits=s by simp[IntKind.bits];omega];exact Int.fdiv_eq_ediv_of_nonneg _ (by exact Int.le_of_lt (Int.pow_pos ST))
  rw[e,w_u8]
 rcases this with rfl|rfl|rfl|rfl|rfl|rfl|rfl|rfl
 .exact H 0 ST
 .exact H 8 ST
 .exact H 16 ST
 .exact H 24 ST
 .exact H 32 ST
 .exact H 40 ST
 .exact H 48 ST
 .exact H 56 ST
def aeI(y:Snap)(hk:k<=7):aZ y k=Bm y (8*(k:Int)) 8:=by
 have:k=0\/k=1\/k=2\/k=3\/k=4\/k=5\/k=6\/k=7:=Fn;rcases this with rfl|rfl|rfl|rfl|rfl|rfl|rfl|rfl
 .exact(pg y).symm
 .exact(pf y).symm
 .exact(o8 y).symm
 .exact(oZ y).symm
 .exact(oY y).symm
 .exact(oX y).symm
 .exact(oW y).symm
 .exact(oV y).symm
def SH.put{m:Ms}(W:WM p m){o:Nat}(hn:o+n<=64)(n8:n<=8)(hv:0<=v/\v<=18446744073709551615)(h:Ar s (Da (dx m) (o:Int) v (n:Int))=ZB):SH s {m with fm:=putL m.fm o v n}:=by
 obtain⟨h1,h2,h3⟩:=(aat _ _).1 h;refine(gX _ _).2 ⟨h1,fun j hj=> ?_,fun k hk=> ?_⟩
 .have q:=h2 j hj;rw[show xr (Da (dx m) (o:Int) v (n:Int)) j=xr (dx m) j from rfl,Ps m hj]at q;exact q
 .have q:=h3 k hk;rw[aeI _ hk]at q ⊢;rw[kr (x:=dx {m with fm:=putL m.fm o v n}) (y:=Da (dx m) (o:Int) v (n:Int)) 8 _ fun j j0 j1=> ?_]
  .exact q
  .obtain⟨i,rfl⟩:=cd (show 0<=j by omega);rw[mX _ Fn Fn,lS _ _ _ _ _ Fn Fn,mX _ Fn Fn];show gt (putL m.fm o v n) (i:Int) 0=_;rw[ah8 W.fm o v i n (by rw[W.fl];omega)];by_cases c:o<=i/\i<o+n
   .rw[if_pos c,if_pos Fn,atX hv.1 hv.2 _ Fn];congr 1;omega
   .rw[if_neg c,if_neg Fn]
def ajO{m:Ms}(hx:A3 x=ZB)(hk:x.k=2)(hc:0<=p.ctx/\p.ctx<=256)(W:WM p m)(G:GA s)(H:SH s m)(he:(Bz p x s).2=0):
  EP m (F8 (m.r x.d) x.off) (ZG .i64 x.sz)=ZB/\SH (Bz p x s).1 (dY m x)/\WM p (dY m x):=by
 obtain⟨d0,d1,s0,s1,_⟩:=cr hx;unfold Bz at he ⊢;rw[if_neg Fn,if_neg Fn,if_pos hk]at he ⊢;by_cases hw:aD p.ctx (Ao s x.d) x.off x.sz=ZB
 rotate_left
 .rw[if_neg hw]at he;cases he
 rw[if_pos hw]at he ⊢;obtain⟨kt,hs,o,ha,o0,o1,lo,hi,Wo,TK⟩:=ani (W.r _) hc (H.reg d0 d1).2 hw;have hz:=arL hs;have hn:=bL hs;obtain⟨n,P1⟩:=cd (show 0<=x.sz by omega);obtain⟨oN,hoN⟩:=cd o0;have hb:dY m x={m with cx:=Lw m (bQ (Ao s x.d)+o) x.sz (m.r x.s),fm:=Jr m (bQ (Ao s x.d)+o) x.sz (m.r x.s)}:=by unfold dY;rw[if_neg Fn,if_neg Fn,if_pos hk,hz,ha]
 rw[hb,hz,ha];have PL:RowsIn [some .u8] (Lw m (bQ (Ao s x.d)+o) x.sz (m.r x.s)):=by
  unfold Lw;split
  .exact my W.cx _ _ _
  .exact W.cx
 have hfx:RowsIn [some .u8] (Jr m (bQ (Ao s x.d)+o) x.sz (m.r x.s)):=by
  unfold Jr;split
  .exact my W.fm _ _ _
  .exact W.fm
 refine⟨?_,?_,⟨W.rl,W.rv,W.st,W.an,PL,by rw[show({m with cx:=Lw m (bQ (Ao s x.d)+o) x.sz (m.r x.s),fm:=Jr m (bQ (Ao s x.d)+o) x.sz (m.r x.s)}:Ms).cx.length=m.cx.length from aeS _ _ _ _];exact W.cl,hfx,(aeR _ _ _ _).trans W.fl⟩⟩
 .unfold EP;rw[fk];unfold bQ;rcases kt with kt|kt
  .rw[if_pos kt]at o1 ⊢;exact .inl (kf.2 ⟨by omega,by have:=W.cl;omega⟩)
  .rw[if_neg Fn]at o1 ⊢;exact .inr (kf.2 ⟨by omega,by have:=W.fl;omega⟩)
 .unfold SC at he ⊢;by_cases k3:(Ao s x.d).k=3
  .rw[if_pos k3]at he ⊢;rw[if_neg Fn]at o1;have hq:BJ s (Ip (Ao s x.d) x) (IT (Ao s x.d) x) x.sz=ZB/\tset (Ao s x.s)=ZB:=by
    have Ic:nj s (Ip (Ao s x.d) x) (IT (Ao s x.d) x) x.sz (Ao s x.s)=0:=he;unfold nj at Ic;by_cases c:BJ s (Ip (Ao s x.d) x) (IT (Ao s x.d) x) x.sz=ZB/\tset (Ao s x.s)=ZB
    .exact c
    .rw[if_neg c]at Ic;cases Ic
   have q:=acx hq.1 hq.2 H (fun i=>sI W i) lo hi (H.reg s0 s1).2 (W.r _).1 (W.r _).2;have e1:Jr m (bQ (Ao s x.d)+o) x.sz (m.r x.s)=putL m.fm oN (m.r x.s) n:=by
    have SO:bQ (Ao s x.d)=3145728:=by unfold bQ;rw[if_neg Fn]
    unfold Jr;rw[SO,if_pos (kf.2 ⟨by omega,by have:=W.fl;omega⟩)];congr 1<;>omega
   rw[e1];rw[hoN,P1]at q;rw[P1];exact SH.put W Fn Fn (W.r _) q
  .rw[if_neg k3];have k2:(Ao s x.d).k=2:=kt.resolve_right k3;rw[if_pos k2]at o1;have e1:Jr m (bQ (Ao s x.d)+o) x.sz (m.r x.s)=m.fm:=by
    have SO:bQ (Ao s x.d)=2097152:=by unfold bQ;rw[if_pos k2]
    unfold Jr;rw[SO,gj (by have:=W.fl;omega)];rfl
   rw[e1];exact H
def rb{cc w:Int}(h:gv cc=ZB):lP (il cc) w a b=(!lP cc w a b)/\DY (il cc) 64=ZB:=by
 unfold gv at h;rw[ne,aB,aB]at h;have hc:cc=0\/cc=1\/cc=2\/cc=3\/cc=4\/cc=5\/cc=6\/cc=7\/cc=8\/cc=9:=Fn;rcases hc with rfl|rfl|rfl|rfl|rfl|rfl|rfl|rfl|rfl|rfl
 all_goals
  refine⟨?_,by decide⟩;simp[lP,il,bne]
  try (rw[aj];simp)
 all_goals first|done|omega
def SH.fine{m:Ms}(H:SH s m)(d0:0<=d)(hb:A6 m.st d=ZB)(ht:aQ t (m.r d)=ZB)(hm:Az (BU s d t)=ZB):SH (BU s d t) m:=by
 obtain⟨_,h2,h3⟩:=(gX s m).1 H;refine(gX _ _).2 ⟨hm,fun j hj=> ?_,fun k hk=>h3 k hk⟩;rw[zX s _ t hj];by_cases c:d=(j:Int)
 .subst c;rw[beq_self_eq_true,al1];unfold rok;rw[hb,ht];simp
 .rw[beq_eq_false_iff_ne.2 c,al2];exact h2 j hj
def aqE(h:A3 x=ZB)(hk:x.k=3):DY x.op 64=ZB:=by unfold A3 at h;rw[ne,ne]at h;have q:=h.2.1;unfold ct at q;rw[if_neg Fn,if_neg Fn,if_neg Fn,if_pos hk]at q;have q:(decide (0<=x.op)&&decide (x.op<=10))=ZB:=q;unfold DY;rw[q];rfl
def ahO{i:Int}(hx:A3 x=ZB)(hk:x.k=3\/x.k=4)(h0:0<=i)(h1:i<1099511627776):(AN i x).2=ZB:=by have hd:=cr hx;rw[rR hk (by rw[ne,aB,aB];omega) (by rw[ne,aB,aB];omega)]
def alU{m:Ms}(hx:A3 x=ZB)(hk:x.k=3)(W:WM p m)(G:GA s)(H:SH s m)(hu:fx s (Dw x).toNat=ZC){cc go:Int}{kn:Bool}(Cs:kn=ZB->DY cc 64=ZB/\lP cc 64 (m.r x.d) (m.sec x)=ZB):
  ∃q∈CX s x.d (Ao s x.d) (cn x s) (im x s (cn x s)) go cc kn,q.1=go/\SH q.2 m:=by
 obtain⟨d0,d1,s0,s1,_⟩:=cr hx;unfold CX;by_cases ht:(im x s (cn x s)&&kn)=ZB
 .rw[if_pos ht];rw[ne]at ht;obtain⟨ht,hkn⟩:=ht;unfold im at ht;rw[ne,ne,cL,cL]at ht;obtain⟨_,ka,kb⟩:=ht;obtain⟨q1,q2⟩:=yl hx W H;obtain⟨r1,r2⟩:=H.reg d0 d1;obtain⟨g1,g2⟩:=aju (G.nth d0 d1).wf (G.b2 s0 s1).wf (W.r _) q2 (kz r2 ka) (kz q1 (Br kb)) (Cs hkn).1 (Cs hkn).2;rw[if_pos g1];exact⟨_,dv.2 rfl,rfl,H.fine d0 (r1.resolve_left Fn) (iH g2) ((G.reg (am2 (G.nth d0 d1).wf (G.b2 s0 s1).wf) _).may)⟩
 .rw[if_neg ht];exact⟨_,dv.2 rfl,rfl,H⟩
def aqB{m:Ms}(hx:A3 x=ZB)(hk:x.k=3)(W:WM p m)(G:GA s)(H:SH s m)(hu:fx s (Dw x).toNat=ZC)(h0:0<=m.pc)(h1:m.pc<1099511627776):
  ∃q∈gA m.pc x s (cn x s)++gY m.pc x s (cn x s),q.1=Ho m x/\SH q.2 m:=by
 have hc:=aqE hx hk;unfold Ho;cases hh:lP x.op 64 (m.r x.d) (m.sec x)with
 |true=>rw[if_pos (.inr ⟨hk,by unfold zd;rw[hc,hh];rfl⟩)];obtain⟨q,hq,e1,e2⟩:=alU hx hk W G H hu (go:=(AN m.pc x).1) (cc:=x.op) (kn:=ZB) (fun _=>⟨hc,hh⟩);refine⟨q,YX _ ?_,e1,e2⟩;unfold gY;rw[if_pos (ahO hx (.inl hk) h0 h1)];exact hq
 |false=>
   rw[if_neg (fun e=>by
    rcases e with e|e
    .exact Fn
    .have:=e.2;unfold zd at this;rw[hh,ap]at this;cases this)]
   obtain⟨q,hq,e1,e2⟩:=alU hx hk W G H hu (go:=Ac .add .i64 m.pc 1) (cc:=il x.op) (kn:=gv x.op) (fun h=>⟨(rb (w:=64) (a:=m.r x.d) (b:=m.sec x) h).2,by rw[(rb h).1,hh];rfl⟩);refine⟨q,List.mem_append_left _ ?_,e1,e2⟩;unfold gA;rw[if_neg Fn];exact hq
def aoR{m:Ms}(hp:p.l.length<=maxLen)(Al:(aV p).2=0)(W:WM p m)(h0:0<=m.pc)(h1:m.pc<(p.l.length:Int))(G:GA s)(H:SH s m)(he:(bw p m.pc s).2=0):
  halt p m≠3/\(halt p m=0->WM p (DA p m)/\∃q∈(bw p m.pc s).1,q.1=(DA p m).pc/\SH q.2 (DA p m)):=by
 have hx:=dr hp Al h0 h1;have hc:=wZ Al;obtain⟨⟨_,_,n64⟩,_⟩:=cF hp Al;obtain⟨d0,d1,s0,s1,_,_,k0,k6⟩:=cr hx;unfold bw at he ⊢;by_cases hu:fx s (Dw (aa p.l m.pc)).toNat=ZB
 .rw[if_pos hu]at he;cases he
 rw[if_neg hu]at he ⊢;have hu:fx s (Dw (aa p.l m.pc)).toNat=ZC:=X2;by_cases hm:(Bz p (aa p.l m.pc) s).2=0
 rotate_left
 .rw[if_neg hm]at he;exact(hm he).elim
 rw[if_pos hm];have hw:=akx hx W H hu;show halt p m≠3/\(halt p m=0->WM p (DA p m)/\∃q∈gA m.pc (aa p.l m.pc) (Bz p (aa p.l m.pc) s).1 (cn (aa p.l m.pc) s)++gY m.pc (aa p.l m.pc) (Bz p (aa p.l m.pc) s).1 (cn (aa p.l m.pc) s),q.1=(DA p m).pc/\SH q.2 (DA p m));have on:(aa p.l m.pc).k≠3->(aa p.l m.pc).k≠4->(aa p.l m.pc).k≠6->∀s1,SH s1 (dY m (aa p.l m.pc))->∃q∈gA m.pc (aa p.l m.pc) s1 (cn (aa p.l m.pc) s)++gY m.pc (aa p.l m.pc) s1 (cn (aa p.l m.pc) s),q.1=(DA p m).pc/\SH q.2 (DA p m):=fun h3 h4 h6 s1 hs=>by
  refine⟨(Ac .add .i64 m.pc 1,s1),List.mem_append_left _ ?_,?_,hs⟩
  .unfold gA CX im;rw[if_neg Fn,show((aa p.l m.pc).k==3)=ZC from beq_eq_false_iff_ne.2 h3];exact dv.2 rfl
  .show _=Ho m (aa p.l m.pc);unfold Ho;rw[if_neg Fn]
 have wm:WM p (dY m (aa p.l m.pc))->WM p (DA p m):=fun h=>⟨h.rl,h.rv,h.st,h.an,h.cx,h.cl,h.fm,h.fl⟩
 have hk:(aa p.l m.pc).k=0\/(aa p.l m.pc).k=1\/(aa p.l m.pc).k=2\/(aa p.l m.pc).k=3\/(aa p.l m.pc).k=4\/(aa p.l m.pc).k=5\/(aa p.l m.pc).k=6:=Fn;rcases hk with hk|hk|hk|hk|hk|hk|hk
 ·
  have hh:=qo hw (.inl hk);have hb:dY m (aa p.l m.pc)=m.set (aa p.l m.pc).d (PW (aa p.l m.pc).op (aa p.l m.pc).w (m.r (aa p.l m.pc).d) (m.sec (aa p.l m.pc))):=by unfold dY;rw[if_pos hk]
  have GM:=G.mid (p:=p) d0 d1 s0 s1 hm;have hv:Bz p (aa p.l m.pc) s=(BU s (aa p.l m.pc).d (Dp (aa p.l m.pc) (Ao s (aa p.l m.pc).d) (cn (aa p.l m.pc) s)),0):=by unfold Bz;rw[if_pos hk]
  rw[hv]at GM ⊢;have hd:=at9 hx hk W G H hu;refine⟨by omega,fun _=>⟨wm ?_,on Fn Fn Fn _ ?_⟩⟩
  .rw[hb];refine W.set d0 d1 ?_;have ho:=abN hx hk;unfold PW;rw[if_pos ho];obtain⟨_,sb⟩:=yl hx W H;exact ey _ _ _ _ (W.r _).1 (W.r _).2 sb.1 sb.2
  .rw[hb];exact H.sets W d0 d1 hd GM
 ·
  obtain⟨l1,l2,l3⟩:=ap0 hx hk hc W G H hm;have hh:=ah4 hw hk l1;have hb:dY m (aa p.l m.pc)=m.set (aa p.l m.pc).d (Fu m.mem (F8 (m.r (aa p.l m.pc).s) (aa p.l m.pc).off) (ZG .i64 (aa p.l m.pc).sz)):=by unfold dY;rw[if_neg Fn,if_pos hk]
  refine⟨by omega,fun _=>⟨wm (hb▸l3),on Fn Fn Fn _ (hb▸l2)⟩⟩
 ·
  obtain⟨l1,l2,l3⟩:=ajO hx hk hc W G H hm;have hh:=zf hw hk rfl rfl l1;exact⟨by omega,fun _=>⟨wm l3,on Fn Fn Fn _ l2⟩⟩
 ·
  have hh:=qo hw (.inr (.inl hk));have hb:dY m (aa p.l m.pc)=m:=by unfold dY;rw[if_neg Fn,if_neg Fn,if_neg Fn,if_neg Fn]
  have hv:Bz p (aa p.l m.pc) s=(s,0):=by unfold Bz;rw[if_neg Fn,if_neg Fn,if_neg Fn,if_neg Fn]
  rw[hv];refine⟨by omega,fun _=>⟨wm (hb.symm▸W),?_⟩⟩;obtain⟨q,q1,q2,q3⟩:=aqB hx hk W G H hu h0 Fn;refine⟨q,q1,q2,?_⟩;show SH q.2 {dY m (aa p.l m.pc)with pc:=Ho m (aa p.l m.pc)};rw[hb];exact q3
 ·
  have hh:=qo hw (.inr (.inr hk));have hb:dY m (aa p.l m.pc)=m:=by unfold dY;rw[if_neg Fn,if_neg Fn,if_neg Fn,if_neg Fn]
  have hv:Bz p (aa p.l m.pc) s=(s,0):=by unfold Bz;rw[if_neg Fn,if_neg Fn,if_neg Fn,if_neg Fn]
  rw[hv];refine⟨by omega,fun _=>⟨wm (hb.symm▸W),((AN m.pc (aa p.l m.pc)).1,s),YX _ ?_,?_,?_⟩⟩
  .unfold gY CX im;rw[if_pos (ahO hx (.inr hk) h0 Fn),show((aa p.l m.pc).k==3)=ZC from beq_eq_false_iff_ne.2 Fn];exact dv.2 rfl
  .show _=Ho m (aa p.l m.pc);unfold Ho;rw[if_pos (.inl hk)]
  .show SH s {dY m (aa p.l m.pc)with pc:=Ho m (aa p.l m.pc)};rw[hb];exact H
 ·
  by_cases ha:m.an.length=0
  .have hh:=ah5 hw hk ha;exact⟨by omega,fun h=>by omega⟩
  have hh:=ah6 hw hk ha;have hb:dY m (aa p.l m.pc)=m.call (aa p.l m.pc):=by unfold dY;rw[if_neg Fn,if_neg Fn,if_neg Fn,if_pos hk]
  have hv:Bz p (aa p.l m.pc) s=(Qz s,0):=by unfold Bz;rw[if_neg Fn,if_neg Fn,if_neg Fn,if_pos hk]
  rw[hv];obtain⟨q1,q2⟩:=aq1 (x:=aa p.l m.pc) W G H ha;exact⟨by omega,fun _=>⟨wm (hb▸q2),on Fn Fn Fn _ (hb▸q1)⟩⟩
 ·
  have hh:=amY hw hk;exact⟨by omega,fun h=>by omega⟩
def KI(i:Nat):tb 0 i=ZC:=by unfold tb;simp
def auU{k:Kn}(w:k.wf)(h:AX k 0=ZB):Ky (Eu 0) k=ZB:=by
 rw[bh w]at h;rw[ahw w];intro i hi;obtain⟨h1,h2⟩:=h i hi;rw[KI]at h2;refine⟨?_,h1,?_,?_⟩
 .show(tb 0 i&&tb 0 i)=ZC;rw[KI];rfl
 .show(tb 0 i||tb k.m i)=tb k.m i;rw[KI,Bool.false_or]
 .show(tb 0 i &&!tb k.m i)=tb k.v i;rw[KI];exact h2
def ZT(t:Ty):Prop:=t.k=1/\A2 t.s 0=ZB
def ZT.wi(h:ZT t)(g:GT t):LB (DO (B8 0)) t=ZB:=by
 obtain⟨hk,hv⟩:=h;have k0:(t.k==0)=ZC:=by rw[hk];rfl
 cases hs:H3 t with
 |true=>exact arC k0 rfl hs
 |false=>rw[auA k0 rfl hs (by rw[hk];rfl) rfl];have h1:=fw hv;have h2:=fO hv;rw[aM]at h1;have e:BZ 0=0:=XZ;rw[e]at h1;have hb:NR (HG 0) t.s.r=ZB:=at4 XZ (zP (eK hv)) ⟨h1.1,h1.2.1,by show _<=BZ 0;rw[e];exact h1.2.2.1,by show BZ 0<=_;rw[e];exact h1.2.2.2⟩;show(NR (HG 0) t.s.r&&Ky (Eu 0) t.s.k)=ZB;rw[hb,auU g.wf.k h2];rfl
def ad1:A2 vall 0=ZB:=by decide +kernel
def ZT.join{a b:Ty}(h:ZT a)(ga:GT a)(gb:GT b)(hb:tset b=ZB):ZT (cK w a b):=by
 obtain⟨hk,hv⟩:=h;have Jq:b.k≠0:=by intro e;rw[WH (by rw[e];rfl)]at hb;cases hb
 unfold cK ee;rw[if_neg (by rintro (e|e);omega;exact Jq e)];split
 .exact⟨rfl,ad1⟩
 .rename_i BM
  try rw[if_pos hk]
  have hbk:b.k=1:=Fn;refine⟨rfl,?_⟩;show A2 (if w=ZB then DC a.s b.s else jA a.s b.s) 0=ZB;have m1:=xS ga.ok hk;have m2:=xS gb.ok hbk;split
  .exact zL ga.wf gb.wf ⟨by decide,by decide⟩ m1 m2 (.inl hv)
  .exact uN ga.wf gb.wf ⟨by decide,by decide⟩ m1 m2 (.inl hv)
def zO:Cf vall=vall:=by kernel_rfl
def wS(k:Kn):jq kall k=kall:=by
 unfold jq;split
 .have e:bits .or .u64 (bits .or .u64 kall.m k.m) (bits .xor .u64 kall.v k.v)=18446744073709551615:=by
   refine VU (iO _ _) ⟨by decide,by decide⟩ (fun i hi=> ?_);have one:tb 18446744073709551615 i=ZB:=by have:∀i,i<64->tb 18446744073709551615 i=ZB:=XZ;exact this i hi
   rw[fE,fE,show tb kall.m i=ZB from one,one];rfl
  rw[e];show(⟨bits .andNot .u64 0 18446744073709551615,18446744073709551615⟩:Kn)=⟨0,18446744073709551615⟩;rw[show bits .andNot .u64 0 18446744073709551615=0 by decide +kernel]
 .rfl
def alK{s:Sc}(h:s.wf):(if w=ZB then DC vall s else jA vall s)=vall:=by
 obtain⟨⟨⟨a1,a2⟩,⟨a3,a4⟩,⟨a5,a6⟩,⟨a7,a8⟩⟩,-⟩:=h;split
 .unfold DC;split
  .have e:Gs vall.r s.r=ball:=by
    show Gs ball s.r=ball;unfold Gs ball;rw[if_neg (fun q=>by have:=Ah q.2;have:s.r.ul<0:=this;omega),if_neg (fun q=>by have:=Ah q.2;have:18446744073709551615<s.r.uh:=this;omega),if_neg (fun q=>by have:=Ah q.2;have:s.r.sl < -9223372036854775808:=this;omega),if_neg (fun q=>by have:=Ah q.2;have:9223372036854775807<s.r.sh:=this;omega)]
   rw[e,show vall.k=kall from rfl,wS];exact zO
  .rfl
 .unfold jA;split
  .have e:js vall.r s.r=ball:=by
    show js ball s.r=ball;unfold js;split
    .show(⟨min 0 s.r.ul,max 18446744073709551615 s.r.uh,min (-9223372036854775808) s.r.sl,max 9223372036854775807 s.r.sh⟩:Rg)=ball;rw[Int.min_eq_left a1,Int.max_eq_left a4,Int.min_eq_left a5,Int.max_eq_left a8];rfl
    .rfl
   rw[e,show vall.k=kall from rfl,wS];exact zO
  .rfl
def PT(c z:Int)(t:Ty):Prop:=t.k=0\/t=tscal\/(t.k=c/\t.lo<=z/\z<=t.hi)
def PT.wi(h:PT c z t)(hc:c=2\/c=3):LB ⟨c,0,0,0,0,0,0,z,z⟩ t=ZB:=by
 have c0:(c==0)=ZC:=by rcases hc with rfl|rfl<;>rfl
 have c1:(c==1)=ZC:=by rcases hc with rfl|rfl<;>rfl
 rcases h with h|h|⟨h,h1,h2⟩
 .exact auB (by rw[h];rfl)
 .rw[h];exact arC ST c0 aex
 .have hs:H3 t=ZC:=by
   unfold H3;rw[h,show(c==tscal.k)=ZC from c1];rfl
  rw[auz (by rw[h];exact c0) c0 hs (by show(c==t.k)=ZB;rw[h];simp) c1];show(decide (t.lo<=z)&&decide (z<=t.hi))=ZB;rw[dg h1,dg h2];rfl
def PT.join{a b:Ty}(hc:c=2\/c=3)(hz : -1048576<=z/\z<=1048576)(h:PT c z a)(ga:GT a)(gb:GT b):PT c z (cK w a b):=by
 unfold cK ee;split
 .exact .inl rfl
 rename_i h0;split
 .exact .inr (.inl rfl)
 rename_i BM;rcases h with h|h|⟨h,h1,h2⟩
 .exact absurd (.inl h) h0
 .have hk:a.k=1:=by rw[h];rfl
  rw[if_pos hk,h];refine .inr (.inl ?_);show ty 1 (if w=ZB then DC vall b.s else jA vall b.s) 0 0=tscal;rw[alK gb.wf];rfl
 .rw[if_neg Fn];refine .inr (.inr ⟨h,?_,?_⟩)
  .show Ht w a b<=z;unfold Ht;split<;>omega
  .show z<=Hq w a b;unfold Hq;split<;>omega
structure F0(s:Sta):Prop where
 r0:s.r0.k=0
 r1:PT 2 0 s.r1
 r2:s.r2.k=0
 r3:s.r3.k=0
 r4:s.r4.k=0
 r5:s.r5.k=0
 r6:s.r6.k=0
 r7:s.r7.k=0
 r8:s.r8.k=0
 r9:s.r9.k=0
 r10:PT 3 64 s.r10
 s0:ZT s.s0
 s1:ZT s.s1
 s2:ZT s.s2
 s3:ZT s.s3
 s4:ZT s.s4
 s5:ZT s.s5
 s6:ZT s.s6
 s7:ZT s.s7
def fH{a b:Ty}(h:a.k=0):(cK w a b).k=0:=by unfold cK ee;rw[if_pos (.inl h)];rfl
def F0.join{a b:Sta}(h:F0 a)(ga:GA a)(gb:GA b)(w:Bool):F0 (iJ w a b):=by
 rw[(nW ga.may gb.may).1];exact⟨fH h.r0,h.r1.join (.inl rfl) ⟨by decide,by decide⟩ ga.r1 gb.r1,fH h.r2,fH h.r3,fH h.r4,fH h.r5,fH h.r6,fH h.r7,fH h.r8,fH h.r9,h.r10.join (.inr rfl) ⟨by decide,by decide⟩ ga.r10 gb.r10,
  h.s0.join ga.s0.1 gb.s0.1 gb.s0.2,h.s1.join ga.s1.1 gb.s1.1 gb.s1.2,h.s2.join ga.s2.1 gb.s2.1 gb.s2.2,h.s3.join ga.s3.1 gb.s3.1 gb.s3.2,h.s4.join ga.s4.1 gb.s4.1 gb.s4.2,h.s5.join ga.s5.1 gb.s5.1 gb.s5.2,h.s6.join ga.s6.1 gb.s6.1 gb.s6.2,h.s7.join ga.s7.1 gb.s7.1 gb.s7.2⟩
def ki:GT (DO (B8 0)):=zh XZ (sM ⟨by decide,by decide⟩)
def alh:GA jH:=
 ⟨gt_nil,ah9 (.inl rfl) ST,gt_nil,gt_nil,gt_nil,gt_nil,gt_nil,gt_nil,gt_nil,gt_nil,ah9 (.inr rfl) ST,
  ⟨ki,by decide +kernel⟩,⟨ki,by decide +kernel⟩,⟨ki,by decide +kernel⟩,⟨ki,by decide +kernel⟩,⟨ki,by decide +kernel⟩,⟨ki,by decide +kernel⟩,⟨ki,by decide +kernel⟩,⟨ki,by decide +kernel⟩⟩
def nR:ZT (DO (B8 0)):=⟨rfl,sT ⟨by decide,by decide⟩⟩
def alp:F0 jH:=⟨rfl,.inr (.inr ⟨rfl,by decide,by decide⟩),rfl,rfl,rfl,rfl,rfl,rfl,rfl,rfl,.inr (.inr ⟨rfl,by decide,by decide⟩),nR,nR,nR,nR,nR,nR,nR,nR⟩
structure VJ(p:Prog)(r:VR):Prop where
 vi:VI p r
 s0:gt r.T (0:Nat) 0=1
 f:F0 (ak r.T (0:Nat))
 ok:∀k:Nat,k<64->gt r.T k 0=1->GA (ak r.T k)
 lt:∀k:Nat,k<64->gt r.T k 0=1->k<p.l.length
def DN(p:Prog)(r:VR):Prop:=∀k:Nat,k<64->gt r.T k 0=1->tb r.w k=ZC->(bw p k (ak r.T k)).2=0/\∀q∈(bw p k (ak r.T k)).1,gt r.T q.1 0=1
def jF(S:Sta)(hn:n<T.length):ak (T.set n (1::BH S)) (n:Int)=S:=by
 have h:∀c,gt (T.set n (1::BH S)) (n:Int) c=(1::BH S).getD c 0:=fun c=>by rw[ah7 n c hn,if_pos rfl]
 simp only[ak,Bn,h];rfl
def aqL(hn:n<T.length)(k:Nat)(h:gt T k 0=1\/k=n):gt (T.set n (1::BH S)) (k:Int) 0=1:=by
 rw[ah7 k 0 hn];split
 .rfl
 next e=>exact h.resolve_right e
section
variable {p:Prog}{r:VR}{q:Int×Sta}
def io(hq:q.1=(n:Int)):AP r q=r/\gt r.T n 0=1\/∃S g,AP r q=⟨GG r.w n,r.T.set n (1::BH S),g⟩/\(gt r.T n 0=1/\S=Ji r q\/¬gt r.T n 0=1/\S=q.2):=by
 unfold AP;rw[hq,cS];split
 .rename_i h1;split
  .exact .inl ⟨rfl,h1⟩
  .exact .inr ⟨_,_,rfl,.inl ⟨h1,rfl⟩⟩
 next h1=>exact .inr ⟨_,_,rfl,.inr ⟨h1,rfl⟩⟩
def akr(hq:q.1=(n:Int))(hn:n<64)(hk:k<64):((AP r q).T[k]? =r.T[k]? /\tb (AP r q).w k=tb r.w k)\/tb (AP r q).w k=ZB:=by
 rcases io (r:=r) hq with⟨h,-⟩|⟨S,g,h,-⟩
 .rw[h];exact .inl ⟨rfl,rfl⟩
 .rw[h];by_cases e:k=n
  .right;show tb (GG r.w n) k=ZB;rw[xW hn hk,e];simp
  .left;refine⟨by show(r.T.set n (1::BH S))[k]? =r.T[k]?;rw[pp (fun e2=>e e2.symm)],?_⟩;show tb (GG r.w n) k=tb r.w k;rw[xW hn hk];simp[e]
def mu(hq:q.1=(n:Int))(hn:n<r.T.length)(k:Nat)(h:gt r.T k 0=1\/k=n):gt (AP r q).T k 0=1:=by
 rcases io (r:=r) hq with⟨e,h1⟩|⟨S,g,e,-⟩
 .rw[e];rcases h with h|h
  .exact h
  .rw[h];exact h1
 .rw[e];exact aqL hn k h
def amv(hv:VJ p r)(hl:p.l.length<=64)(hq:q.1=(n:Int))(hn:n<p.l.length)(hg:GA q.2):VJ p (AP r q):=by
 have hT:n<r.T.length:=by rw[hv.vi.T];omega
 have vi:=hv.vi.put (q:=q) (by rw[hq];omega) hl;refine⟨vi,mu hq hT 0 (.inl hv.s0),?_,?_,?_⟩
 .rcases io (r:=r) hq with⟨e,-⟩|⟨S,g,e,hS⟩
  .rw[e];exact hv.f
  .rw[e];show F0 (ak (r.T.set n (1::BH S)) (0:Nat));by_cases h0:n=0
   .subst h0;rw[jF S hT];rcases hS with⟨h1,rfl⟩|⟨h1,-⟩
    .unfold Ji;rw[hq];exact hv.f.join (hv.ok 0 Fn hv.s0) hg _
    .exact absurd hv.s0 h1
   .rw[dN (T':=r.T) (pp h0)];exact hv.f
 .intro k hk hs;rcases io (r:=r) hq with⟨e,-⟩|⟨S,g,e,hS⟩
  .rw[e]at hs ⊢;exact hv.ok k hk hs
  .rw[e]at hs ⊢;show GA (ak (r.T.set n (1::BH S)) k);by_cases h0:n=k
   .subst h0;rw[jF S hT];rcases hS with⟨h1,rfl⟩|⟨h1,rfl⟩
    .unfold Ji;rw[hq];exact(hv.ok n hk h1).join hg _
    .exact hg
   .have e2:(r.T.set n (1::BH S))[k]? =r.T[k]? :=pp h0;rw[dN e2];exact hv.ok k hk ((gQ e2 0).symm.trans hs)
 .intro k hk hs;rcases io (r:=r) hq with⟨e,-⟩|⟨S,g,e,-⟩
  .rw[e]at hs;exact hv.lt k hk hs
  .rw[e]at hs;by_cases h0:n=k
   .exact Fn
   .have e2:(r.T.set n (1::BH S))[k]? =r.T[k]? :=pp h0;exact hv.lt k hk ((gQ e2 0).symm.trans hs)
end
def tO{p:Prog}(hl:p.l.length<=64):∀(l:List (Int×Sta)) {r:VR},VJ p r->(∀q∈l,(0<=q.1/\q.1<(p.l.length:Int))/\GA q.2)->
  VJ p (l.foldl AP r)/\(∀k:Nat,k<64->((l.foldl AP r).T[k]? =r.T[k]? /\tb (l.foldl AP r).w k=tb r.w k)\/tb (l.foldl AP r).w k=ZB)/\(∀k:Nat,gt r.T k 0=1->gt (l.foldl AP r).T k 0=1)/\∀q∈l,gt (l.foldl AP r).T q.1 0=1
 |[],r,h,_=>⟨h,fun _ _=>.inl ⟨rfl,rfl⟩,fun _ h=>h,fun q hq=>by cases hq⟩
 |q::l,r,h,hq=>by
   obtain⟨hr,hg⟩:=hq q bR;obtain⟨n,hn⟩:=cd hr.1;have hT:n<r.T.length:=by rw[h.vi.T];omega
   have h1:=amv h hl hn Fn hg;obtain⟨a,b,c,d⟩:=tO hl l h1 (fun x hx=>hq x (cM _ hx));refine⟨a,fun k hk=> ?_,fun k hs=>c k (mu hn hT k (.inl hs)),fun x hx=> ?_⟩
   .rcases b k hk with⟨b1,b2⟩|b1
    .rcases akr (r:=r) hn Fn hk with⟨c1,c2⟩|c1
     .exact .inl ⟨b1.trans c1,b2.trans c2⟩
     .exact .inr (b2.trans c1)
    .exact .inr b1
   .rcases List.mem_cons.1 hx with rfl|hx
    .rw[hn];exact c n (mu hn hT n (.inr rfl))
    .exact d x hx
def ary(hl:p.l.length<=maxLen)(hk:(aV p).2=0){r:VR}(h:VJ p r)(hd:DN p r)(hw:r.w≠0)(he:(bw p (CO r.w) (ak r.T (CO r.w))).2=0):
  VJ p ((bw p (CO r.w) (ak r.T (CO r.w))).1.foldl AP (ji r))/\DN p ((bw p (CO r.w) (ak r.T (CO r.w))).1.foldl AP (ji r)):=by
 obtain⟨⟨q1,q2,q3⟩,-,-⟩:=cF hl hk;obtain⟨Nf,-⟩:=h.vi.next hw;obtain⟨k,e1,e2,e3,e4⟩:=ug (by have:=h.vi.w;omega) h.vi.w.2;obtain⟨k5,k6⟩:=h.vi.on k e2 e3;rw[e1]at he ⊢;have h2:VJ p (ji r):=⟨Nf,h.s0,h.f,h.ok,h.lt⟩
 have hx:A3 (aa p.l k)=ZB:=kK hl hk (Int.natCast_nonneg k) Fn;have hg:=(h.ok k e2 k6).sides hx;obtain⟨a,b,c,d⟩:=tO q3 (bw p k (ak r.T k)).1 h2 (fun q hq=>⟨me hl hk k5 q hq,hg q hq⟩);refine⟨a,fun j hj hs hb=> ?_⟩;rcases b j hj with⟨b1,b2⟩|b1
 .have eS:ak ((bw p k (ak r.T k)).1.foldl AP (ji r)).T (j:Int)=ak r.T j:=dN b1;have JN:gt r.T j 0=1:=(gQ b1 0).symm.trans hs;rw[eS];by_cases hjk:j=k
  .subst hjk;exact⟨he,d⟩
  .have UI:tb r.w j=ZC:=by
    have:tb (ji r).w j=(tb r.w j &&!(j==k)):=e4 j hj;rw[b2,this]at hb;simpa[hjk]using hb
   obtain⟨f1,f2⟩:=hd j hj JN UI;refine⟨f1,fun q hq=> ?_⟩;have TP:=f2 q hq;obtain⟨m,hm⟩:=cd (me hl hk (h.lt j hj JN) q hq).1;rw[hm]at TP ⊢;exact c m TP
 .rw[b1]at hb;cases hb
def UV:∀k:Nat,k<64->gt vini.T (k:Int) 0=1->k=0:=by decide +kernel
def arA(hl:1<=p.l.length):VJ p vini where
 vi:=VI.ini hl
 s0:=XZ
 f:=by rw[show ak vini.T (0:Nat)=jH by kernel_rfl];exact alp
 ok k hk hs:=by obtain rfl:=UV k hk hs;rw[show ak vini.T (0:Nat)=jH by kernel_rfl];exact alh
 lt k hk hs:=by obtain rfl:=UV k hk hs;exact hl
def atQ:DN p vini:=fun k hk hs hb=>by obtain rfl:=UV k hk hs;rw[show tb vini.w 0=ZB by decide +kernel]at hb;cases hb
def iX(T:LL)(i:Int):Sta:=⟨Bn T i 0,Bn T i 9,Bn T i 18,Bn T i 27,Bn T i 36,Bn T i 45,Bn T i 54,Bn T i 63,Bn T i 72,Bn T i 81,Bn T i 90,Bn T i 99,Bn T i 108,Bn T i 117,Bn T i 126,Bn T i 135,Bn T i 144,Bn T i 153,Bn T i 162⟩
def abP(f:Nat->List Int)(h:k<n)(c:Nat):gt ((List.range n).map f) (k:Int) c=(f k).getD c 0:=by
 have e:((List.range n).map f).getD k []=f k:=by rw[bV,jn,List.getElem?_range h];rfl
 unfold gt;rw[cS,e]
def qA(h:k<p.l.length):gt (lU p T).1 (k:Int) 0=1↔gt T k 0=1:=by
 unfold lU;rw[abP _ h];show AE (gt T k 0==1)=1↔_;by_cases e:gt T k 0=1
 .rw[e];simp[AE]
 .rw[show(gt T k 0==1)=ZC by simpa using e];simp[AE,e]
def ux(h:k<p.l.length)(hs:gt T k 0=1):iX (lU p T).2.1 (k:Int)=ak T k:=by
 have e:∀c,gt (lU p T).2.1 (k:Int) c=(BH (ak T k)).getD c 0:=fun c=>by unfold lU;rw[abP _ h,if_pos hs]
 simp only[iX,Bn,e];rfl
def ez(p:Prog):Nat->Ms->List Int
 |0,_=>[]
 |f+1,m=>m.pc::(if halt p m=0 then ez p f (DA p m)else[])
def agS{m:Ms}(h:0<left)(hh:halt p m=0):ez p left.toNat m=m.pc::ez p (left-1).toNat (DA p m):=by rw[show left.toNat=(left-1).toNat+1 by omega];show m.pc::(if _ then _ else _)=_;rw[if_pos hh]
def acW{m:Ms}(h:0<left)(hh:halt p m≠0):ez p left.toNat m=[m.pc]:=by rw[show left.toNat=(left-1).toNat+1 by omega];show m.pc::(if _ then _ else _)=_;rw[if_neg hh]
def acV{m:Ms}(h:¬0<left):ez p left.toNat m=[]:=by rw[show left.toNat=0 by omega];rfl
def up(c:List Int)(i:Int):List Int:=c.set i.toNat (Ac .add .i64 (c.getD i.toNat 0) 1)
def Mz(b:Int)(l:LL)(a:Int):Int:=if b<=a/\a-b<(l.length:Int)then a-b else 0
def aus{l:LL}{n:Int}(h:decide (a<b)=ZB):(0:Int)=Mz b l a/\ZC=inr b l a n:=by have:=Ah h;unfold Mz inr;rw[if_neg Fn,eY (by omega:¬b<=a)];exact⟨rfl,rfl⟩
def alR(ha:Ae .u64 a=ZB)(hb:0<=b)(h:decide (a<b)=ZC):Ac .sub .u64 a b=a-b/\0<=a-b/\a<=18446744073709551615:=by have:=wW ha;have:=Ab h;exact⟨Qc Fn Fn,by omega,by omega⟩
def arw{l:LL}{n:Int}(ha:Ae .u64 a=ZB)(hb:0<=b)(hl:l.length<=1048576)(hn:1<=n)(h0:decide (a<b)=ZC)(h1:decide (Ac .sub .u64 a b<ZG .u64 (l.length:Int))=ZC):(0:Int)=Mz b l a/\ZC=inr b l a n:=by obtain⟨e1,e2,e3⟩:=alR ha hb h0;have:=Ab h1;rw[e1,Qc Fn Fn]at this;unfold Mz inr;rw[if_neg Fn,eY (by omega:¬a-b+n<=(l.length:Int)),ap];exact⟨rfl,rfl⟩
def aut{l:LL}{n:Int}(ha:Ae .u64 a=ZB)(hb:0<=b)(hl:l.length<=1048576)(hn:1<=n)(hn8:n<=8)(h0:decide (a<b)=ZC)(h1:decide (Ac .sub .u64 a b<ZG .u64 (l.length:Int))=ZB):ZG .i64 (Ac .sub .u64 a b)=Mz b l a/\(!decide (Ac .sub .i64 (l.length:Int) (ZG .i64 (Ac .sub .u64 a b))<n))=inr b l a n:=by
 obtain⟨e1,e2,e3⟩:=alR ha hb h0;have h1:=Ah h1;have h0:=Ab h0;rw[e1,Qc Fn Fn]at h1;rw[e1,GC Fn Fn,show Ac .sub .i64 (l.length:Int) (a-b)=l.length-(a-b)from GC Fn Fn];unfold Mz inr;rw[if_pos ⟨by omega,h1⟩,dg (by omega:b<=a),Bool.true_and];refine⟨rfl,?_⟩;by_cases h3:a-b+n<=(l.length:Int)
 .rw[dg h3,eY Fn];rfl
 .rw[eY h3,dg Fn];rfl
def ri{l:LL}{n:Int}(h:inr b l a n=ZB)(hn:1<=n):Mz b l a=a-b:=by simp only[inr,ne,aB]at h;unfold Mz;rw[if_pos ⟨h.1,by omega⟩]
def MM(f:LL):List Int:=f.map fun r=>r.getD 0 0
def gJ(m:Ms):List Int:=m.rg++m.st::MM m.fm
def mc(p:Prog):Nat->Ms->LL
 |0,_=>[]
 |f+1,m=>gJ m::(if halt p m=0 then mc p f (DA p m)else[])
def aj2{m:Ms}(h:0<left)(hh:halt p m=0):mc p left.toNat m=gJ m::mc p (left-1).toNat (DA p m):=by rw[show left.toNat=(left-1).toNat+1 by omega];show gJ m::(if _ then _ else _)=_;rw[if_pos hh]
def afe{m:Ms}(h:0<left)(hh:halt p m≠0):mc p left.toNat m=[gJ m]:=by rw[show left.toNat=(left-1).toNat+1 by omega];show gJ m::(if _ then _ else _)=_;rw[if_neg hh]
def afd{m:Ms}(h:¬0<left):mc p left.toNat m=[]:=by rw[show left.toNat=0 by omega];rfl
def vA{p:Prog}:∀(f:Nat) (m:Ms),(mc p f m).length=(ez p f m).length
 |0,m=>rfl
 |f+1,m=>by
   unfold mc ez;split
   .rw[YS,YS,vA f]
   .rfl
def TW(L:List Int):LL:=L.map fun i=>[i]
def cQ(p:Prog)(cx an:LL)(fu:Int):LL×LL:=if jV p cx fu≠0 then([],[])else(TW (ez p fu.toNat (Gw cx an)),mc p fu.toNat (Gw cx an))
def mH(h:jV p cx fu=e)(he:e≠0):cQ p cx an fu=([],[]):=by unfold cQ;rw[if_pos (by rw[h];exact he)]
def WA(U:Env)(v:Nat):List Int:=[U.i v,U.i (v+1),U.i (v+2),U.i (v+3),U.i (v+4),U.i (v+5),U.i (v+6),U.i (v+7),U.i (v+8),U.i (v+9),U.i (v+10),U.i (v+11),U.i (v+12),U.i (v+13),U.i (v+14),U.i (v+15),U.i (v+16),U.i (v+17),U.i (v+18),U.i (v+19),U.i (v+20),U.i (v+21),U.i (v+22),U.i (v+23),U.i (v+24),U.i (v+25),U.i (v+26),U.i (v+27),U.i (v+28),U.i (v+29),U.i (v+30),U.i (v+31),U.i (v+32),U.i (v+33),U.i (v+34),U.i (v+35),U.i (v+36),U.i (v+37),U.i (v+38),U.i (v+39),U.i (v+40),U.i (v+41),U.i (v+42),U.i (v+43),U.i (v+44),U.i (v+45),U.i (v+46),U.i (v+47),U.i (v+48),U.i (v+49),U.i (v+50),U.i (v+51),U.i (v+52),U.i (v+53),U.i (v+54),U.i (v+55),U.i (v+56),U.i (v+57),U.i (v+58),U.i (v+59),U.i (v+60),U.i (v+61),U.i (v+62),U.i (v+63)]
def frDJ(ds:List Dt):List Int:=[dI ds 13,dI ds 14,dI ds 15,dI ds 16,dI ds 17,dI ds 18,dI ds 19,dI ds 20,dI ds 21,dI ds 22,dI ds 23,dI ds 24,dI ds 25,dI ds 26,dI ds 27,dI ds 28,dI ds 29,dI ds 30,dI ds 31,dI ds 32,dI ds 33,dI ds 34,dI ds 35,dI ds 36,dI ds 37,dI ds 38,dI ds 39,dI ds 40,dI ds 41,dI ds 42,dI ds 43,dI ds 44,dI ds 45,dI ds 46,dI ds 47,dI ds 48,dI ds 49,dI ds 50,dI ds 51,dI ds 52,dI ds 53,dI ds 54,dI ds 55,dI ds 56,dI ds 57,dI ds 58,dI ds 59,dI ds 60,dI ds 61,dI ds 62,dI ds 63,dI ds 64,dI ds 65,dI ds 66,dI ds 67,dI ds 68,dI ds 69,dI ds 70,dI ds 71,dI ds 72,dI ds 73,dI ds 74,dI ds 75,dI ds 76]
def msJ(ds:List Dt):Ms:=⟨[dI ds 1,dI ds 2,dI ds 3,dI ds 4,dI ds 5,dI ds 6,dI ds 7,dI ds 8,dI ds 9,dI ds 10,dI ds 11],dI ds 12,dI ds 77,dL ds 78,dL ds 79,dL ds 80,dL ds 81⟩
def kj{v:Nat}{σ:Env}(h:Ag n U σ)(hv:v+64<=n):WA σ v=WA U v:=by show(List.range 64).map (fun k=>σ.i (v+k))=(List.range 64).map (fun k=>U.i (v+k));exact List.map_congr_left fun k hk=>(h (v+k) (by have:=List.mem_range.1 hk;omega)).1.symm
def aih{f:LL}(h:f.length=64):[gt f 0 0,gt f 1 0,gt f 2 0,gt f 3 0,gt f 4 0,gt f 5 0,gt f 6 0,gt f 7 0,gt f 8 0,gt f 9 0,gt f 10 0,gt f 11 0,gt f 12 0,gt f 13 0,gt f 14 0,gt f 15 0,gt f 16 0,gt f 17 0,gt f 18 0,gt f 19 0,gt f 20 0,gt f 21 0,gt f 22 0,gt f 23 0,gt f 24 0,gt f 25 0,gt f 26 0,gt f 27 0,gt f 28 0,gt f 29 0,gt f 30 0,gt f 31 0,gt f 32 0,gt f 33 0,gt f 34 0,gt f 35 0,gt f 36 0,gt f 37 0,gt f 38 0,gt f 39 0,gt f 40 0,gt f 41 0,gt f 42 0,gt f 43 0,gt f 44 0,gt f 45 0,gt f 46 0,gt f 47 0,gt f 48 0,gt f 49 0,gt f 50 0,gt f 51 0,gt f 52 0,gt f 53 0,gt f 54 0,gt f 55 0,gt f 56 0,gt f 57 0,gt f 58 0,gt f 59 0,gt f 60 0,gt f 61 0,gt f 62 0,gt f 63 0]=MM f:=by
 show(List.range 64).map (fun k:Nat=>gt f (k:Int) 0)=MM f;refine List.ext_getElem (by simp[MM,h]) fun i h1 h2=> ?_;have h3:i<f.length:=by simpa[MM]using h2
 simp[gt,MM,AH h3]
structure JAt(p:Prog)(cx an:LL)(fu left:Int)(m:Ms)(fr:List Int)(A L:LL):Prop where
 run:RunAt p cx an fu left m
 fr:fr=MM m.fm
 at_:A++TW (ez p left.toNat m)=TW (ez p fu.toNat (Gw cx an))
 sn:L++mc p left.toNat m=mc p fu.toNat (Gw cx an)
 la:(A.length:Int)+left=fu
 ll:L.length=A.length
def JInv(p:Prog)(cx an:LL)(fu:Int)(ds:List Dt):Prop:=JAt p cx an fu (dI ds 0) (msJ ds) (frDJ ds) (dL ds 82) (dL ds 83)
def JAt.init(h0:0<=fu)(hl:1<=p.l.length):JAt p cx an fu fu (Gw cx an) (List.replicate 64 0) [] []:=⟨RunAt.init h0 hl,rfl,rfl,rfl,by show(0:Int)+fu=fu;omega,rfl⟩
def JAt.snap{m:Ms}(h:JAt p cx an fu left m fr A L):gJ m=m.rg++m.st::fr:=by rw[h.fr];rfl
def JAt.go{FQ:Int}{m m':Ms}{fr':List Int}{A' L':LL}(h:JAt p cx an fu left m fr A L)(hp:p.l.length<=maxLen)(Al:(aV p).2=0)(hf:fu<=10000)(hl:0<left)(hh:halt p m=0)(hm:m'=DA p m)(he:FQ=Ac .sub .i64 left 1)(hA:A'=A++[[m.pc]])(hL:L'=L++[gJ m])(J8:fr'=MM m'.fm):
  JAt p cx an fu FQ m' fr' A' L'/\FQ.toNat<left.toNat:=by
 obtain⟨g1,g2⟩:=h.run.go hp Al hf hl hh hm he;have e1:Ac .sub .i64 left 1=left-1:=by have:=h.run.hi;have:=h.run.lo;exact GC Fn Fn
 refine⟨⟨g1,J8,?_,?_,?_,?_⟩,g2⟩
 .have:=h.at_;rw[agS hl hh]at this;rw[hA,hm,he,e1,List.append_assoc];exact this
 .have:=h.sn;rw[aj2 hl hh]at this;rw[hL,hm,he,e1,List.append_assoc];exact this
 .have:=h.la;rw[hA,he,e1,eg,List.length_singleton];omega
 .rw[hA,hL,eg,eg,h.ll];rfl
def JAt.end{m:Ms}(ho:jV p cx fu=0)(h:JAt p cx an fu left m fr A L)(hl:0<left){k:Int}(hh:halt p m=k)(hk:k≠0):cQ p cx an fu=(A++[[m.pc]],L++[gJ m]):=by unfold cQ;rw[if_neg (by simp[ho]),<-h.at_,<-h.sn,acW hl (by rw[hh];exact hk),afe hl (by rw[hh];exact hk)];rfl
def JAt.out{m:Ms}(ho:jV p cx fu=0)(h:JAt p cx an fu left m fr A L)(hl:¬0<left):cQ p cx an fu=(A,L):=by unfold cQ;rw[if_neg (by simp[ho]),<-h.at_,<-h.sn,acV hl,afd hl];show(A++[],L++[])=(A,L);rw[YR,YR]
def ID(v:Int)(k:Nat):Int:=v / 2 ^ (8*k)
def arQ(v:Int):ID v 0=v:=by unfold ID;rw[Nat.mul_zero,Int.pow_zero,Int.ediv_one]
def amb(h0:0<=v)(h1:v<=18446744073709551615)(k:Nat):0<=ID v k/\ID v k<=18446744073709551615:=by have hp:(0:Int)<2 ^ (8*k):=Int.pow_pos ST;exact⟨Int.ediv_nonneg h0 (Int.le_of_lt hp),Int.le_trans (Int.ediv_le_self _ h0) h1⟩
def arP(h0:0<=v)(h1:v<=18446744073709551615)(k:Nat):Ac .shr .u64 (ID v k) 8=ID v (k+1):=by
 obtain⟨b0,b1⟩:=amb h0 h1 k;have hp:(0:Int)<2 ^ (8*k):=Int.pow_pos ST;show(ID v k).fdiv (2 ^ min (8:Int).toNat 64)=_;rw[show min (8:Int).toNat 64=8 from rfl,Int.fdiv_eq_ediv_of_nonneg _ ST];have e:ID v k / 2 ^ 8=ID v (k+1):=by unfold ID;rw[Int.ediv_ediv_of_nonneg (Int.le_of_lt hp),<-Int.pow_add];rfl
 exact e
def auD(h0:0<=v)(h1:v<=18446744073709551615)(hk:k<8):ZG .u8 (Ac .and .u64 (ID v k) 255)=ZG .u8 (Ac .shr .u64 v (Ac .mul .i64 8 (k:Int))):=by
 obtain⟨b0,b1⟩:=amb h0 h1 k;have e2:Ac .shr .u64 v (Ac .mul .i64 8 (k:Int))=ID v k:=by rw[mulE hk];show v.fdiv (2 ^ min (((8*k:Nat):Int)).toNat 64)=_;rw[cS,Nat.min_eq_left Fn,Int.fdiv_eq_ediv_of_nonneg _ (Int.pow_nonneg ST)];rfl
 rw[e2];obtain⟨x,hx⟩:=cd b0;rw[hx]at b1 ⊢;have e3:Ac .and .u64 ((x:Nat):Int) 255=((x % 256:Nat):Int):=by show bits .and .u64 _ _=_;rw[show(255:Int)=((2 ^ 8-1:Nat):Int)from rfl,u64_and_nat _ _ Fn ST,Nat.and_two_pow_sub_one_eq_mod]
 rw[e3];have w8:∀z:Int,ZG .u8 z=z % 256:=fun z=>rfl;rw[w8,w8];omega
def Qy{l:LL}{n:Int}(W:Win b l a n)(hl:l.length<=1048576)(h0:0<=v)(h1:v<=18446744073709551615)(hk:k<n.toNat):
  st (putL l (a-b).toNat v k) (Ac .add .i64 (a-b) (k:Int)) 0 (ZG .u8 (Ac .and .u64 (ID v k) 255))=putL l (a-b).toNat v (k+1):=by
 rw[auD h0 h1 (by have:=W.n8;omega)];exact putS W hl v hk
def abS{l:List Int}(h:∀x∈l,Ae .u64 x=ZB)(i:Nat):0<=l.getD i 0/\l.getD i 0<=18446744073709551615:=by
 rw[bV];cases hq:l[i]? with
 |none=>exact⟨Int.le_refl _,by decide⟩
 |some x=>exact wW (h x (fD hq))
def at7(rg:List Int):CZ rg ((0:Nat):Int)=[]:=by
 unfold CZ;show List.drop 1 (List.take 1 _)=[];cases rg with
 |nil=>rfl
 |cons x l=>rfl
def alI{rg:List Int}(h:(k:Int)<=5):(CZ rg (k:Int)).length<=5:=by unfold CZ;rw[show Ac .add .i64 1 (k:Int)=1+k from GC Fn Fn,List.length_drop,List.length_take,show(1:Int).toNat=1 from rfl];omega
def atU(s:Int):Ac .andNot .i64 (Ac .or .i64 (Ac .andNot .i64 (Ac .or .i64 (Ac .andNot .i64 (Ac .or .i64 (Ac .andNot .i64 (Ac .or .i64 (Ac .andNot .i64 (Ac .or .i64 (Ac .or .i64 s 1) 2) 2) 4) 4) 8) 8) 16) 16) 32) 32=IQ s:=by
 have e:∀x b:Int,Ac .andNot .i64 (Ac .or .i64 x b) b=Ac .andNot .i64 x b:=fun x b=>by rw[kD,kD,TX,kp];congr 1;refine BitVec.eq_of_getLsbD_eq fun k hk=> ?_;simp only[BitVec.getLsbD_and,BitVec.getLsbD_or,BitVec.getLsbD_not];cases(LW x).getLsbD k<;>cases(LW b).getLsbD k<;>simp
 rw[e,e,e,e,e];rfl
def asn{m:Ms}(hk:(aa p.l m.pc).k=5)(hn:(k:Int)=fJ (aa p.l m.pc).imm){r0 r1 r2 r3 r4 r5 r6 r7 r8 r9 r10:Int}(hr:m.rg=[r0,r1,r2,r3,r4,r5,r6,r7,r8,r9,r10]):
  (⟨[gt m.an 0 0,0,0,0,0,0,r6,r7,r8,r9,r10],Ac .andNot .i64 (Ac .or .i64 (Ac .andNot .i64 (Ac .or .i64 (Ac .andNot .i64 (Ac .or .i64 (Ac .andNot .i64 (Ac .or .i64 (Ac .andNot .i64 (Ac .or .i64 (Ac .or .i64 m.st 1) 2) 2) 4) 4) 8) 8) 16) 16) 32) 32,Ac .add .i64 m.pc 1,m.an.drop (1:Int).toNat,m.tr++[[(aa p.l m.pc).imm,gt m.an 0 0,((CZ m.rg (k:Int)).length:Int),gt (CZ m.rg (k:Int)) 0 0,gt (CZ m.rg (k:Int)) 1 0,gt (CZ m.rg (k:Int)) 2 0,gt (CZ m.rg (k:Int)) 3 0,gt (CZ m.rg (k:Int)) 4 0]],m.cx,m.fm⟩:Ms)=DA p m:=by
 rw[auL hk,atU,hn];have h5:=fI (aa p.l m.pc).imm;have hl:((CZ m.rg (fJ (aa p.l m.pc).imm)).length:Int)=ZG .i64 ((CZ m.rg (fJ (aa p.l m.pc).imm)).length:Int):=by
  have:(CZ m.rg (fJ (aa p.l m.pc).imm)).length<=11:=by unfold CZ;rw[List.length_drop,List.length_take,List.length_map,hr];exact cX (Nat.sub_le _ _) (Nat.min_le_right _ _)
  rw[GC Fn Fn]
 unfold Ms.call atF;rw[<-hl,hr];rfl
def LE(p:Prog)(a b:Sta):Prop:=∀m:Ms,WM p m->SH a m->SH b m
def LE.refl(p:Prog)(a:Sta):LE p a a:=fun _ _ h=>h
def LE.trans{a b c:Sta}(h:LE p a b)(h':LE p b c):LE p a c:=fun m w s=>h' m w (h m w s)
def ajw(w:Bool)(a b:Sta){j:Nat}(hj:j<=10):Ao (Mc w a b) j=cK w (Ao a j) (Ao b j):=by have:j=0\/j=1\/j=2\/j=3\/j=4\/j=5\/j=6\/j=7\/j=8\/j=9\/j=10:=Fn;rcases this with rfl|rfl|rfl|rfl|rfl|rfl|rfl|rfl|rfl|rfl|rfl<;>rfl
def aeU(w:Bool)(a b:Sta)(hk:k<=7):ni (Mc w a b) k=cK w (ni a k) (ni b k):=by have:k=0\/k=1\/k=2\/k=3\/k=4\/k=5\/k=6\/k=7:=Fn;rcases this with rfl|rfl|rfl|rfl|rfl|rfl|rfl|rfl<;>rfl
def ajK{m:Ms}(W:WM p m)(hk:k<=7):0<=aZ (dx m) k/\aZ (dx m) k<=18446744073709551615:=by rw[aeI _ hk];have:=xG (sI W) 8 (8*(k:Int));have h9:(256:Int) ^ 8=18446744073709551616:=ST;omega
def SH.join{a b:Sta}{m:Ms}(W:WM p m)(ga:GA a)(gb:GA b)(h:SH a m\/SH b m):SH (iJ w a b) m:=by
 rw[(nW ga.may gb.may).1];refine(gX _ _).2 ⟨by rw[<-(nW (w:=w) ga.may gb.may).1];exact(ga.join gb w).may,fun j hj=> ?_,fun k hk=> ?_⟩
 .rw[ajw w a b hj];have A:=ga.nth (d:=(j:Int)) Fn Fn;have B:=gb.nth (d:=(j:Int)) Fn Fn;exact ako A.wf B.wf A.ok B.ok (W.r _) (h.imp (fun h=>((gX _ _).1 h).2.1 j hj) (fun h=>((gX _ _).1 h).2.1 j hj))
 .rw[aeU w a b hk];have A:=ga.slot (k:Int);have B:=gb.slot (k:Int);exact rk A.wf B.wf A.ok B.ok (ajK W hk) (h.imp (fun h=>((gX _ _).1 h).2.2 k hk) (fun h=>((gX _ _).1 h).2.2 k hk))
def LE.l{a b:Sta}(ga:GA a)(gb:GA b)(w:Bool):LE p a (iJ w a b):=fun _ W h=>SH.join W ga gb (.inl h)
def LE.r{a b:Sta}(ga:GA a)(gb:GA b)(w:Bool):LE p b (iJ w a b):=fun _ W h=>SH.join W ga gb (.inr h)
def al5(s:Sta):iX [BH s] 0=s:=by kernel_rfl
def ajP{a b:Sta}(h:BH a=BH b):a=b:=by rw[<-al5 a,<-al5 b,h]
def DL(p:Prog)(r:VR):Prop:=∀k:Nat,k<64->gt r.T k 0=1->tb r.w k=ZC->∀q∈(bw p k (ak r.T k)).1,LE p q.2 (ak r.T q.1)
section
variable {p:Prog}{r:VR}{q:Int×Sta}
def ar5(hv:VJ p r)(hl:p.l.length<=64)(hq:q.1=(n:Int))(hn:n<p.l.length)(hg:GA q.2):LE p q.2 (ak (AP r q).T n)/\∀k:Nat,k<64->gt r.T k 0=1->LE p (ak r.T k) (ak (AP r q).T k):=by
 have hT:n<r.T.length:=by rw[hv.vi.T];omega
 unfold AP;rw[hq,cS];by_cases h1:gt r.T n 0=1
 .rw[if_pos h1];have gn:=hv.ok n Fn h1;have ej:Ji r q=iJ (decide (8<gt r.g q.1 0)) (ak r.T n) q.2:=by unfold Ji;rw[hq]
  by_cases h2:BH (Ji r q)=BH (ak r.T n)
  .rw[if_pos h2];refine⟨?_,fun k _ _=>LE.refl _ _⟩;have e:=ajP h2;rw[<-e,ej];exact LE.r gn hg _
  .rw[if_neg h2];refine⟨?_,fun k hk hs=> ?_⟩
   .rw[jF _ hT,ej];exact LE.r gn hg _
   .by_cases e:n=k
    .subst e;rw[jF _ hT,ej];exact LE.l gn hg _
    .rw[dN (T':=r.T) (pp e)];exact LE.refl _ _
 .rw[if_neg h1];refine⟨by rw[jF _ hT];exact LE.refl _ _,fun k hk hs=> ?_⟩;by_cases e:n=k
  .subst e;exact absurd hs h1
  .rw[dN (T':=r.T) (pp e)];exact LE.refl _ _
end
def agN{p:Prog}(hl:p.l.length<=64):∀(l:List (Int×Sta)) {r:VR},VJ p r->(∀q∈l,(0<=q.1/\q.1<(p.l.length:Int))/\GA q.2)->
  (∀k:Nat,k<64->gt r.T k 0=1->LE p (ak r.T k) (ak (l.foldl AP r).T k))/\∀q∈l,LE p q.2 (ak (l.foldl AP r).T q.1)
 |[],r,h,_=>⟨fun k _ _=>LE.refl _ _,fun q hq=>by cases hq⟩
 |q::l,r,h,hq=>by
   obtain⟨hr,hg⟩:=hq q bR;obtain⟨n,hn⟩:=cd hr.1;have hT:n<r.T.length:=by rw[h.vi.T];omega
   have h1:=amv h hl hn Fn hg;obtain⟨a,b⟩:=agN hl l h1 (fun x hx=>hq x (cM _ hx));obtain⟨c,d⟩:=ar5 h hl hn Fn hg;refine⟨fun k hk hs=>(d k hk hs).trans (a k hk (mu hn hT k (.inl hs))),fun x hx=> ?_⟩;rcases List.mem_cons.1 hx with rfl|hx
   .rw[hn];exact c.trans (a n Fn (mu hn hT n (.inr rfl)))
   .exact b x hx
def adY(hl:p.l.length<=maxLen)(hk:(aV p).2=0){r:VR}(h:VJ p r)(hn:DN p r)(hd:DL p r)(hw:r.w≠0)(he:(bw p (CO r.w) (ak r.T (CO r.w))).2=0):
  DL p ((bw p (CO r.w) (ak r.T (CO r.w))).1.foldl AP (ji r))/\LE p (ak r.T (0:Nat)) (ak ((bw p (CO r.w) (ak r.T (CO r.w))).1.foldl AP (ji r)).T (0:Nat)):=by
 obtain⟨⟨q1,q2,q3⟩,-,-⟩:=cF hl hk;obtain⟨Nf,-⟩:=h.vi.next hw;obtain⟨k,e1,e2,e3,e4⟩:=ug (by have:=h.vi.w;omega) h.vi.w.2;obtain⟨k5,k6⟩:=h.vi.on k e2 e3;rw[e1]at he ⊢;have h2:VJ p (ji r):=⟨Nf,h.s0,h.f,h.ok,h.lt⟩
 have hx:A3 (aa p.l k)=ZB:=kK hl hk (Int.natCast_nonneg k) Fn;have hg:=(h.ok k e2 k6).sides hx;have A8:∀q∈(bw p k (ak r.T k)).1,(0<=q.1/\q.1<(p.l.length:Int))/\GA q.2:=fun q hq=>⟨me hl hk k5 q hq,hg q hq⟩
 obtain⟨a,b,c,d⟩:=tO q3 (bw p k (ak r.T k)).1 h2 A8;obtain⟨u,v⟩:=agN q3 (bw p k (ak r.T k)).1 h2 A8;refine⟨fun j hj hs hb=> ?_,u 0 ST h.s0⟩;rcases b j hj with⟨b1,b2⟩|b1
 .have eS:ak ((bw p k (ak r.T k)).1.foldl AP (ji r)).T (j:Int)=ak r.T j:=dN b1;have JN:gt r.T j 0=1:=(gQ b1 0).symm.trans hs;rw[eS];by_cases hjk:j=k
  .subst hjk;exact v
  .have UI:tb r.w j=ZC:=by
    have:tb (ji r).w j=(tb r.w j &&!(j==k)):=e4 j hj;rw[b2,this]at hb;simpa[hjk]using hb
   intro q hq;have g1:=hd j hj JN UI q hq;have g2:=(hn j hj JN UI).2 q hq;obtain⟨m,hm⟩:=cd (me hl hk (h.lt j hj JN) q hq).1;have As:=(me hl hk (h.lt j hj JN) q hq).2;rw[hm]at g1 g2 ⊢;exact g1.trans (u m Fn g2)
 .rw[b1]at hb;cases hb
def atS:DL p vini:=fun k hk hs hb=>by obtain rfl:=UV k hk hs;rw[show tb vini.w 0=ZB by decide +kernel]at hb;cases hb
def ajt(hl:p.l.length<=maxLen)(hk:(aV p).2=0):∀(n:Nat) (last:Int) (r:VR),VJ p r->DN p r->DL p r->(jk p n last r).2.2.2=0->∃r',jk p n last r=lU p r'.T/\VJ p r'/\DN p r'/\DL p r'/\r'.w=0/\LE p (ak r.T (0:Nat)) (ak r'.T (0:Nat)):=by
 intro n
 induction n with
 |zero=>
   intro last r hV hD hL h;by_cases hw:r.w=0
   .exact⟨r,iq hw,hV,hD,hL,hw,LE.refl _ _⟩
   .rw[lw hw]at h;cases h
 |succ n ih=>
   intro last r hV hD hL h;by_cases hw:r.w=0
   .exact⟨r,iq hw,hV,hD,hL,hw,LE.refl _ _⟩
   .by_cases he:(bw p (CO r.w) (ak r.T (CO r.w))).2=0
    .rw[na hw he]at h ⊢;obtain⟨a,b⟩:=ary hl hk hV hD hw he;obtain⟨c,d⟩:=adY hl hk hV hD hL hw he;obtain⟨r',g1,g2,g3,g4,g5,g6⟩:=ih _ _ a b c h;exact⟨r',g1,g2,g3,g4,g5,d.trans g6⟩
    .rw[pk hw he]at h;exact absurd h he
structure GM(p:Prog)(m:Ms):Prop where
 wm:WM p m
 p0:0<=m.pc
 p1:m.pc<(p.l.length:Int)
 sn:gt (AC p).1 m.pc 0=1
 sh:SH (iX (AC p).2.1 m.pc) m
def aj8(cx an:LL):SH jH (Gw cx an):=by show Ar jH (dx (Gw [] []))=ZB;decide +kernel
def ajk(hc:RowsIn [some .u8] cx)(ha:RowsIn [some .u64] an)(hl:(cx.length:Int)=p.ctx):WM p (Gw cx an):=⟨rfl,fun v hv=>(by decide:∀v∈[(0:Int),2097152,0,0,0,0,0,0,0,0,3145792],0<=v/\v<=18446744073709551615) v hv,⟨1026,rfl,by decide⟩,ha,hc,hl,agw 64 ST,List.length_replicate⟩
section
variable {p:Prog}(hl:p.l.length<=maxLen)(h:(AC p).2.2.2=0)
include hl h
theorem xL:(aV p).2=0/\∃r,AC p=lU p r.T/\VJ p r/\DN p r/\DL p r/\r.w=0/\LE p jH (ak r.T (0:Nat)):=by
 by_cases hk:(aV p).2=0
 .obtain⟨⟨q1,q2,q3⟩,-,-⟩:=cF hl hk;have e:AC p=jk p 2000 0 vini:=by unfold AC;rw[if_pos hk]
  rw[e]at h ⊢;obtain⟨r,g1,g2,g3,g4,g5,g6⟩:=ajt hl hk _ _ _ (arA q2) atQ atS h;rw[show ak vini.T (0:Nat)=jH by kernel_rfl]at g6;exact⟨hk,r,g1,g2,g3,g4,g5,g6⟩
 .unfold AC at h;rw[if_neg hk]at h;exact absurd h hk
theorem alf(hc:RowsIn [some .u8] cx)(ha:RowsIn [some .u64] an)(CV:(cx.length:Int)=p.ctx):GM p (Gw cx an):=by
 obtain⟨hk,r,e,hV,hD,hL,hw,hF⟩:=xL hl h;obtain⟨⟨q1,q2,q3⟩,-,-⟩:=cF hl hk;have W:=ajk hc ha CV;refine⟨W,Int.le_refl _,by show(0:Int)<_;omega,?_,?_⟩
 .rw[e];exact(qA (k:=0) Fn).2 hV.s0
 .rw[e];show SH (iX (lU p r.T).2.1 ((0:Nat):Int)) _;rw[ux (k:=0) Fn hV.s0];exact hF _ W (aj8 cx an)
theorem aic{m:Ms}(g:GM p m):halt p m≠3/\(halt p m=0->GM p (DA p m)):=by
 obtain⟨hk,r,e,hV,hD,hL,hw,-⟩:=xL hl h;obtain⟨⟨q1,q2,q3⟩,-,-⟩:=cF hl hk;obtain⟨W,p0,p1,sn,sh⟩:=g;obtain⟨k,HS⟩:=cd p0;have D1:k<p.l.length:=Fn;rw[e,HS]at sn sh;have hs:=(qA D1).1 sn;rw[ux D1 hs]at sh;have hb:tb r.w k=ZC:=by rw[hw,KI]
 obtain⟨d1,d2⟩:=hD k Fn hs hb;have d3:=hL k Fn hs hb;have so:=aoR (s:=ak r.T k) hl hk W p0 p1 (hV.ok k Fn hs) sh (by rw[HS];exact d1);refine⟨so.1,fun hh=> ?_⟩;obtain⟨w2,q,hq,e1,e2⟩:=so.2 hh;rw[HS]at hq;obtain⟨n0,n1⟩:=ar7 hl hk p0 p1 hh;obtain⟨n,hn⟩:=cd n0;have Sq:(DA p m).pc=(n:Int):=hn;have K7:n<p.l.length:=Fn;have s2:=d2 q hq;have s3:=d3 q hq;rw[e1,Sq]at s2 s3;refine⟨w2,by rw[Sq];omega,by rw[Sq];omega,?_,?_⟩
 .rw[e,Sq];exact(qA K7).2 s2
 .rw[e,Sq,ux K7 s2];exact s3 _ w2 e2
theorem se:∀(f:Nat) (m:Ms),GM p m->(exec p f m).1≠3
 |0,m,_=>by show(0:Int)≠3;decide
 |f+1,m,g=>by
   obtain⟨g1,g2⟩:=aic hl h g;unfold exec;by_cases hh:halt p m=0
   .rw[if_pos hh];exact se f _ (g2 hh)
   .rw[if_neg hh];exact g1
theorem pu:∀(f:Nat) (m:Ms),GM p m->∀i:Nat,i<(ez p f m).length->∃m',GM p m'/\(ez p f m)[i]? =some m'.pc/\(mc p f m)[i]? =some (gJ m')
 |0,m,_,i,hi=>by cases hi
 |f+1,m,g,i,hi=>by
   obtain⟨g1,g2⟩:=aic hl h g;unfold ez at hi ⊢;unfold mc;cases i with
   |zero=>exact⟨m,g,by simp,by simp⟩
   |succ i=>
     by_cases hh:halt p m=0
     .rw[if_pos hh]at hi ⊢;rw[if_pos hh];obtain⟨m',a,b,c⟩:=pu f _ (g2 hh) i XS;exact⟨m',a,by simpa using b,by simpa using c⟩
     .rw[if_neg hh]at hi;simp at hi
end
def Ek(sn st:LL)(i:Int):Bool:=(decide (0<=i)&&decide (i<min (sn.length:Int) (st.length:Int)))&&(gt sn i 0==1)
def HM(sn st:LL)(i:Int):Sta:=if Ek sn st i=ZB then iX st i else Jz
def GM.at{m:Ms}(g:GM p m)(h:(AC p).2.2.2=0):Ek (AC p).1 (AC p).2.1 m.pc=ZB/\HM (AC p).1 (AC p).2.1 m.pc=iX (AC p).2.1 m.pc:=by
 obtain⟨n1,n2⟩:=zM h;have e:Ek (AC p).1 (AC p).2.1 m.pc=ZB:=by unfold Ek;have:=g.p0;have:=g.p1;rw[g.sn,dg g.p0,dg Fn];rfl
 exact⟨e,by unfold HM;rw[if_pos e]⟩
def aff{m:Ms}(h:m.rg.length=11)(hf:m.fm.length=64):gJ m=[m.r 0,m.r 1,m.r 2,m.r 3,m.r 4,m.r 5,m.r 6,m.r 7,m.r 8,m.r 9,m.r 10,m.st]++(List.range 64).map fun k:Nat=>gt m.fm (k:Int) 0:=by
 obtain⟨rg,st,pc,an,tr,cx,fm⟩:=m
 match rg,h with
 |[a0,a1,a2,a3,a4,a5,a6,a7,a8,a9,a10],_=>unfold gJ;rw[<-aih hf];rfl
open Go.ChangeShapes Go.WideShapes
structure Repo where
 sn:LL
 st:LL
def Repo.eta(a:Repo):(⟨a.sn,a.st⟩:Repo)=a:=rfl
def agK(k:Repo->List Dt->List Dt):List Dt->List Dt
 |.l z0::.l z1::r=>k ⟨z0,z1⟩ r
 |_=>[]
def Repo.ok(a:Repo):Prop:=RowsIn [none] a.sn/\RowsIn EE a.st
def avb:List CK:=[.sl [none] 4,.sl EE 56]
def ad6(t:List VK):List VK:=.list [none]::.list EE::t
def aiv(a:Repo)(t:List Dt):List Dt:=.l a.sn::.l a.st::t
def ali{l:List VK}{p:List Dt->Prop}(h:∀a:Repo,Repo.ok a->aO l fun r=>p (aiv a r)):aO (ad6 l) p:=fun x0 C8 x1 Du=>h ⟨x0,x1⟩ ⟨C8,Du⟩
def agJ(k:Repo->List Dt->List Dt)(a:Repo)(t:List Dt):agK k (aiv a t)=k a t:=rfl
def aek:List (Nat×TI):=[(2,CB),
 (3,CU),
 (4,EH),
 (29,VP),
 (30,Ue),
 (32,VT),
 (38,fT),
 (39,eX),
 (46,gZ),
 (48,jl),
 (50,eM),
 (52,qS),
 (53,qR),
 (54,qQ),
 (56,uZ)]
def aeb:∀t i,(t,i)∈aek->TIok ZF t i:=bi (DX (z:=Ei) ⟨ra,lh⟩<|DX (z:=Dr) ⟨qZ,lg⟩ B1) B1 (by kernel_rfl)
def Vo:List Dt->Prop
 |[.l x0,.l x1,.z x2]=>let f (r:Repo) (i:Int):Prop:=r.sn.length<=maxLen/\r.st.length<=maxLen;f ⟨x0,x1⟩ x2
 |_=>False
def c_vat:Cd:=⟨8,[.agg avb,.one (.int .i64)],[.agg kSta,.one .bool],agK fun r=>rdZ fun i _=>d_Sta (HM r.sn r.st i) [.z (AE (Ek r.sn r.st i))],Vo⟩
def afH:Tr:=
(.br (.lt (.w 2) (.p 0))
(.u (.zr 171 (.j (.tt ZC) .nil)))
(.br (.lt (.w 2) (.mn (.len (.g 0)) (.len (.g 1))))
(.br (.lt (.w 2) (.len (.g 0)))
(.br (.getb (.g 0) (.w 2) 0)
(.br (.lt (.w 2) (.len (.g 1)))
(.u (.gs (.g 1) (.w 2) 0 171 (.j (.tt ZB) .nil)))
.panic)
(.u (.zr 171 (.j (.tt ZC) .nil))))
.panic)
(.u (.zr 171 (.j (.tt ZC) .nil)))))
def arX:cb aek (FJ 0 []) [] [(999999,[])] [] 200 Tryz.f8 c_vat.a c_vat.r (tp c_vat.r) (ad6 [.int .i64]) afH:=E0 (by kernel_rfl)
def av1(U:Env)(l i t:E):(E.gs l i 0 171 t).D U=d_Sta (iX (l.R U) (i.I U)) (t.D U):=by kernel_rfl
def D_zr(U:Env)(t:E):(E.zr 171 t).D U=d_Sta Jz (t.D U):=by kernel_rfl
def aui(r:Repo)(i:Int):c_vat.F (aiv r [.z i])=d_Sta (HM r.sn r.st i) [.z (AE (Ek r.sn r.st i))]:=by simp only[c_vat,agJ,rdZ]
def au1:c_vat.Ok ZF:=
 GE (hl:=.inr (.inl ⟨(fun xs (h:Vo xs) L hL=>by unfold Vo at h;split at h<;>first|exact h.elim|(simp at hL;rcases hL with rfl|rfl;exact h.1;exact h.2)),rfl⟩)) afH (ad6 [.int .i64]) aeb AI Tryz.func8 E2 arX<|ali fun r hr=>fun i hi hp U g=>by
 rw[aui];have g':Dt.l (U.l 0)::.l (U.l 1)::[.z (U.i 2)]=.l r.sn::.l r.st::[.z i]:=g;simp only[Be,Dt.z.injEq,Dt.l.injEq,and_true]at g';obtain⟨g0,g1,g2⟩:=g';have no:Ek r.sn r.st i=ZC->(E.zr 171 (.j (.tt ZC) .nil)).D U=d_Sta (HM r.sn r.st i) [.z (AE (Ek r.sn r.st i))]:=fun h=>by unfold HM;rw[h,if_neg (by simp),D_zr];rfl
 unfold afH;refine⟨fun c=>no ?_,fun c=>⟨fun c1=>⟨fun _=>⟨fun c2=>⟨fun _=> ?_,fun c3=> ?_⟩,fun c2=>no ?_⟩,fun c3=> ?_⟩,fun c1=>no ?_⟩⟩
 all_goals try simp only[E.B,E.I,E.R,g0,g1,g2]at c
 all_goals try simp only[E.B,E.I,E.R,g0,g1,g2]at c1
 all_goals try simp only[E.B,E.I,E.R,g0,g1,g2]at c2
 all_goals try simp only[E.B,E.I,E.R,g0,g1,g2]at c3
 .unfold Ek;rw[eY (by have:=Ah c;omega)];rfl
 .have h:Ek r.sn r.st i=ZB:=by
   unfold Ek;rw[dg (by have:=Ab c;omega),c1,c2];rfl
  unfold HM;rw[h,if_pos rfl];show(E.gs (.g 1) (.w 2) 0 171 (.j (.tt ZB) .nil)).D U=_;rw[av1,show(E.g 1).R U=r.st from g1,show(E.w 2).I U=i from g2];rfl
 .have:=Ah c1;have:=Ab c3;omega
 .unfold Ek;rw[c2,ap]
 .have:=Ah c1;have:=Ab c3;omega
 .unfold Ek;rw[c1,ap];rfl
def C6(U:Env)(n:Nat):Ty:=⟨U.i n,U.i (n+1),U.i (n+2),U.i (n+3),U.i (n+4),U.i (n+5),U.i (n+6),U.i (n+7),U.i (n+8)⟩
def Dv(U:Env)(n:Nat):Sta:=⟨C6 U n,C6 U (n+9),C6 U (n+18),C6 U (n+27),C6 U (n+36),C6 U (n+45),C6 U (n+54),C6 U (n+63),C6 U (n+72),C6 U (n+81),C6 U (n+90),C6 U (n+99),C6 U (n+108),C6 U (n+117),C6 U (n+126),C6 U (n+135),C6 U (n+144),C6 U (n+153),C6 U (n+162)⟩
section
variable (U:Env)
def arn(n:Nat)(t:E):(E.vs n 171 t).D U=d_Sta (Dv U n) (t.D U):=by kernel_rfl
def WN(n:Nat):(E.vs n 171 .nil).L U=BH (Dv U n):=by kernel_rfl
def T4(l i t:E):(E.gs l i 1 171 t).D U=d_Sta (ak (l.R U) (i.I U)) (t.D U):=by kernel_rfl
def auc(l i:E):(E.gs l i 1 171 .nil).L U=BH (ak (l.R U) (i.I U)):=by kernel_rfl
def aum(n:Nat)(t:E):(E.vs n 9 t).D U=d_Ty (C6 U n) (t.D U):=by kernel_rfl
def QD(e l i t:E):(E.tg e l i 1 9 t).D U=d_Ty (Ao (ak (l.R U) (i.I U)) (e.I U)) (t.D U):=by kernel_rfl
def aro(e l i t:E)(m:Nat):(E.rg e (E.vs m 9 .nil) (E.gs l i 1 99 .nil) (E.gs l i 100 72 t)).D U=d_Sta (BU (ak (l.R U) (i.I U)) (e.I U) (C6 U m)) (t.D U):=by kernel_rfl
def av0(e t:E)(m n:Nat):(E.rg e (E.vs m 9 .nil) (E.vs n 99 .nil) (E.vs (n+99) 72 t)).D U=d_Sta (BU (Dv U n) (e.I U) (C6 U m)) (t.D U):=by kernel_rfl
def avW(e:E)(m n:Nat):(E.rg e (E.vs m 9 .nil) (E.vs n 99 .nil) (E.vs (n+99) 72 .nil)).L U=BH (BU (Dv U n) (e.I U) (C6 U m)):=by kernel_rfl
def aun(e l i t:E)(m k:Nat):(E.rg e (E.vs m 9 .nil) (E.rg e (E.vs k 9 .nil) (E.gs l i 1 99 .nil) .nil) (E.gs l i 100 72 t)).D U=d_Sta (BU (BU (ak (l.R U) (i.I U)) (e.I U) (C6 U k)) (e.I U) (C6 U m)) (t.D U):=by kernel_rfl
def auq(l i:E)(n:Nat):(E.vs n 9 (.zr 45 (.gs l i 55 117 .nil))).D U=d_Sta {ak (l.R U) (i.I U)with r0:=C6 U n,r1:=tnil,r2:=tnil,r3:=tnil,r4:=tnil,r5:=tnil} []:=by kernel_rfl
end
def Cz(f:Nat->Int)(n:Nat):Ty:=⟨f n,f (n+1),f (n+2),f (n+3),f (n+4),f (n+5),f (n+6),f (n+7),f (n+8)⟩
def Sk(f:Nat->Int):Sta:=⟨Cz f 0,Cz f 9,Cz f 18,Cz f 27,Cz f 36,Cz f 45,Cz f 54,Cz f 63,Cz f 72,Cz f 81,Cz f 90,Cz f 99,Cz f 108,Cz f 117,Cz f 126,Cz f 135,Cz f 144,Cz f 153,Cz f 162⟩
def xA(m:Nat)(f:Nat->Int):Nat->Int:=fun i=>bif Nat.blt i m then f i else 0
def ack{f g:Nat->Int}(h:∀i,i<m->f i=g i):xA m f=xA m g:=by
 funext i;unfold xA;cases hb:Nat.blt i m with
 |false=>rfl
 |true=>exact h i (by simpa[Nat.blt_eq]using hb)
def pq(f:Nat->Int):Sk (xA 171 f)=Sk f:=by kernel_rfl
def rj(f:Nat->Int):Cz (xA 9 f) 0=Cz f 0:=by kernel_rfl
def aal{f g:Nat->Int}(h:∀m,m<171->f m=g m):Sk f=Sk g:=by rw[<-pq f,<-pq g,ack h]
def aet{f g:Nat->Int}(h:∀m,m<9->f m=g m):Cz f 0=Cz g 0:=by rw[<-rj f,<-rj g,ack h]
def yc(S:Sta)(r:List Dt):Sk (fun m=>dI (d_Sta S r) m)=S:=by kernel_rfl
def aeu(S:Ty)(r:List Dt):Cz (fun m=>dI (d_Ty S r) m) 0=S:=by kernel_rfl
def aiu{a b:Sta}{r r':List Dt}(h:d_Sta a r=d_Sta b r'):a=b:=by rw[<-yc a r,<-yc b r',h]
def aly{a b:Ty}{r r':List Dt}(h:d_Ty a r=d_Ty b r'):a=b:=by rw[<-aeu a r,<-aeu b r',h]
def Jy:List CK->Nat->Bool
 |.int _::_,0=>ZB
 |.int _::ks,m+1=>Jy ks m
 |_,_=>ZC
def qt{U:Env}{ds:List Dt}{v0:Nat}:∀(ks:List CK) (n m:Nat),Jy ks m=ZB->eqs U ds v0 n ks->U.i (v0+(n+m))=dI ds (n+m)
 |.int k::ks,n,0,_,h=>h.1
 |.int k::ks,n,m+1,hk,h=>by have:=qt ks (n+1) m hk h.2;rw[show n+(m+1)=n+1+m by omega];exact this
def uk:∀(a b:List CK) (m:Nat),Jy a m=ZB->Jy (a++b) m=ZB
 |.int _::_,_,0,_=>rfl
 |.int _::a,b,m+1,h=>uk a b m h
def asD:∀m,m<171->Jy kSta m=ZB:=by decide +kernel
def asC:∀m,m<9->Jy kTy m=ZB:=by decide +kernel
def VN{r:List Dt}(h:eqs U (d_Sta S r) v0 0 (kSta++ks)):Dv U v0=S:=by
 have e:=aal (f:=fun m=>U.i (v0+m)) (g:=fun m=>dI (d_Sta S r) m) (fun m hm=>by
  have:=qt _ 0 m (uk _ ks m (asD m hm)) h;rw[bJ]at this;exact this)
 rw[yc]at e;exact e
def atH{S:Ty}{r:List Dt}(h:eqs U (d_Ty S r) v0 0 (kTy++ks)):C6 U v0=S:=by
 have e:=aet (f:=fun m=>U.i (v0+m)) (g:=fun m=>dI (d_Ty S r) m) (fun m hm=>by
  have:=qt _ 0 m (uk _ ks m (asC m hm)) h;rw[bJ]at this;exact this)
 rw[aeu]at e;exact e
def atI(h:eqs U (d_Sta S [.z e]) v0 0 (kSta++[.int .i64])):U.i (v0+171)=e:=by have:=qt _ 0 171 XZ h;exact this
def atG{S:Ty}(h:eqs U (d_Ty S [.z e]) v0 0 (kTy++[.int .i64])):U.i (v0+9)=e:=by have:=qt _ 0 9 XZ h;exact this
def atK{r:List Dt}(h:eqs U (d_Sta S r) v0 0 kSta):Dv U v0=S:=VN (ks:=[]) (by rw[YR];exact h)
def xi{S:Ty}{r:List Dt}(h:eqs U (d_Ty S r) v0 0 kTy):C6 U v0=S:=atH (ks:=[]) (by rw[YR];exact h)
def zV{U':Env}(h:Ag n U U')(hm:m+9<=n):C6 U' m=C6 U m:=by have e:=aet (f:=fun i=>U'.i (m+i)) (g:=fun i=>U.i (m+i)) (fun i hi=>((h (m+i) Fn).1).symm);exact e
def aeO{U':Env}(h:Ag n U U')(hm:m+171<=n):Dv U' m=Dv U m:=by have e:=aal (f:=fun i=>U'.i (m+i)) (g:=fun i=>U.i (m+i)) (fun i hi=>((h (m+i) Fn).1).symm);exact e
section
variable {sp:Spec}{G:Env->E->Prop}{U:Env}{I:Nat->List Dt->Prop}
def az{t:Tr}(xs:List Dt)(hD:args.D U=xs)(hp:sp.pre key xs)(h:eqs U (sp.F key xs) v0 0 ks->t.asks sp G U I):(Tr.call key ks args v0 t).asks sp G U I:=by subst hD;exact⟨hp,h⟩
def aY{lv:Nat}{P:List Dt->Prop}(h:P (args.D U)):(Tr.next lv args).asks sp G U (HE I lv P):=by show HE I lv P lv _;rw[oz];exact h
def ahc{lv lv':Nat}{P:List Dt->Prop}(hn:lv≠lv')(h:(Tr.next lv args).asks sp G U I):(Tr.next lv args).asks sp G U (HE I lv' P):=by show HE I lv' P lv _;rw[pm _ _ hn];exact h
end
def auo(U:Env)(l i t:E):(E.ins l i t).D U=d_Ins (aa (l.R U) (i.I U)) (t.D U):=by kernel_rfl
def ES(x:Ins):LL:=[[x.k,x.op,x.w,x.sz,AE x.br,x.d,x.s,x.off,x.imm]]
def ark(U:Env)(l i:E):(E.lq .ln (.ins l i .nil)).R U=ES (aa (l.R U) (i.I U)):=by kernel_rfl
def ahR(x:Ins):aa (ES x) 0=x:=by show(⟨x.k,x.op,x.w,x.sz,AE x.br==1,x.d,x.s,x.off,x.imm⟩:Ins)=x;rw[b2i_one]
def Mk(w n:E):E:=.f .or .u64 w (.f .shl .u64 (.p 1) n)
def Ph(key:Nat)(n:E)(S:E->E)(w T g:E)(v:Nat)(k:E->E->E->Tr):Tr:=
 .call key (kSta++[.int .i64]) (.gs T n 1 171 (S .nil)) v
  (.br (.leq (.lq .ln (.vs v 171 .nil)) (.lq .ln (.gs T n 1 171 .nil)))
   (k w T g)
   (k (Mk w n) (.lput T n (.j (.tt ZB) (.vs v 171 .nil))) (.lset g n 0 (.f .add .i64 (.get g n 0) (.p 1)))))
def Fj(n:E)(S:E->E)(w T g:E)(v:Nat)(k:E->E->E->Tr):Tr:=
 .br (.lt n (.p 0)) .panic
  (.br (.lt n (.p 64))
   (.br (.lt n (.len T))
    (.br (.getb T n 0)
     (.br (.lt n (.len g))
      (.br (.lt (.p 8) (.get g n 0)) (Ph 17 n S w T g v k) (Ph 16 n S w T g v k))
      (.stuck 54))
     (k (Mk w n) (.lput T n (.j (.tt ZB) (S .nil))) g))
    (.stuck 270))
   .panic)
section
variable {sp:Spec}{G:Env->E->Prop}{U:Env}{I:Nat->List Dt->Prop}{p:Prog}{r:VR}{n w T g:E}{S:E->E}{s:Sta}{v:Nat}{k:E->E->E->Tr}
def ww{b:Bool}(hF:∀a c:Sta,sp.F key (d_Sta a (d_Sta c []))=d_Sta (iJ b a c) [.z (Fa a c)])(hP:∀xs,sp.pre key xs)(hw:w.I U=r.w)(hT:T.R U=r.T)(hg:g.R U=r.g){m:Int}(hn:n.I U=m)(hS:∀t:E,(S t).D U=d_Sta s (t.D U))(h1:gt r.T m 0=1)(h8:decide (8<gt r.g m 0)=b)(hk:∀w' T' g':E,w'.I U=(AP r (m,s)).w->T'.R U=(AP r (m,s)).T->g'.R U=(AP r (m,s)).g->(k w' T' g').asks sp G U I):(Ph key n S w T g v k).asks sp G U I:=by
 refine⟨hP _,fun e=> ?_⟩;have e0:(E.gs T n 1 171 (S .nil)).D U=d_Sta (ak r.T m) (d_Sta s []):=by rw[T4,hT,hn,hS];rfl
 rw[e0,hF]at e;have eS:=VN e;have ej:iJ b (ak r.T m) s=Ji r (m,s):=by unfold Ji;rw[h8]
 rw[ej]at eS;have L1:(E.vs v 171 .nil).L U=BH (Ji r (m,s)):=by rw[WN,eS]
 have L2:(E.gs T n 1 171 .nil).L U=BH (ak r.T m):=by rw[auc,hT,hn]
 have hB:(E.leq (.lq .ln (.vs v 171 .nil)) (.lq .ln (.gs T n 1 171 .nil))).B U=ZB↔BH (Ji r (m,s))=BH (ak r.T m):=by simp only[E.B,E.R,List.nil_append,L1,L2,cL,Be,and_true]
 refine⟨fun c=> ?_,fun c=> ?_⟩
 .have hv:AP r (m,s)=r:=by unfold AP;rw[if_pos h1,if_pos (hB.1 c)]
  exact hk _ _ _ (by rw[hv];exact hw) (by rw[hv];exact hT) (by rw[hv];exact hg)
 .have hc:¬BH (Ji r (m,s))=BH (ak r.T m):=fun e=>by rw[hB.2 e]at c;cases c
  have hv:AP r (m,s)=⟨GG r.w m,r.T.set m.toNat (1::BH (Ji r (m,s))),st r.g m 0 (Ac .add .i64 (gt r.g m 0) 1)⟩:=by unfold AP;rw[if_pos h1,if_neg hc]
  refine hk _ _ _ (by rw[hv];simp only[Mk,E.I,hw,hn];rfl) ?_ ?_
  .rw[hv];simp only[E.R,E.L,E.B,hT,hn,L1];rfl
  .rw[hv];simp only[E.R,E.I,hg,hn]
def wv(hF:∀a c:Sta,sp.F 17 (d_Sta a (d_Sta c []))=d_Sta (iJ ZB a c) [.z (Fa a c)])(Bx:∀a c:Sta,sp.F 16 (d_Sta a (d_Sta c []))=d_Sta (iJ ZC a c) [.z (Fa a c)])(hP:∀xs,sp.pre 17 xs)(hP':∀xs,sp.pre 16 xs)(h:VI p r)(hw:w.I U=r.w)(hT:T.R U=r.T)(hg:g.R U=r.g){m:Int}(hn:n.I U=m)(hm:0<=m/\m<(p.l.length:Int))(hl:p.l.length<=64)(hS:∀t:E,(S t).D U=d_Sta s (t.D U))(hL:(S .nil).L U=BH s)(hk:∀w' T' g':E,w'.I U=(AP r (m,s)).w->T'.R U=(AP r (m,s)).T->g'.R U=(AP r (m,s)).g->(k w' T' g').asks sp G U I):(Fj n S w T g v k).asks sp G U I:=by
 have lt:∀z:Int,(E.lt n (.p z)).B U=decide (m<z):=fun z=>by simp only[E.B,E.I,hn]
 refine⟨fun c=> ?_,fun _=>⟨fun _=>⟨fun _=>⟨fun c1=>⟨fun _=>⟨fun c2=> ?_,fun c2=> ?_⟩,fun c=> ?_⟩,fun c1=> ?_⟩,fun c=> ?_⟩,fun c=> ?_⟩⟩
 .rw[lt]at c;have:=Ah c;exact absurd hm.1 Fn
 .have h1:gt r.T m 0=1:=by
   simp only[E.B,hT,hn,cL]at c1;exact c1
  have h8:decide (8<gt r.g m 0)=ZB:=by simp only[E.B,E.I,hg,hn]at c2;exact c2
  exact ww hF hP hw hT hg hn hS h1 h8 hk
 .have h1:gt r.T m 0=1:=by
   simp only[E.B,hT,hn,cL]at c1;exact c1
  have h8:decide (8<gt r.g m 0)=ZC:=by simp only[E.B,E.I,hg,hn]at c2;exact c2
  exact ww Bx hP' hw hT hg hn hS h1 h8 hk
 .simp only[E.B,E.I,hg,hn,h.g]at c;have:=Ab c;omega
 .have h1:¬gt r.T m 0=1:=by
   simp only[E.B,hT,hn]at c1;intro e;rw[e]at c1;cases c1
  have hv:AP r (m,s)=⟨GG r.w m,r.T.set m.toNat (1::BH s),r.g⟩:=by unfold AP;rw[if_neg h1]
  refine hk _ _ _ (by rw[hv];simp only[Mk,E.I,hw,hn];rfl) ?_ (by rw[hv];exact hg);rw[hv];simp only[E.R,E.L,E.B,hT,hn,hL];rfl
 .simp only[E.B,E.I,hT,hn,h.T]at c;have:=Ab c;omega
 .rw[lt]at c;have:=Ab c;omega
end
def nZ{p:Prop}(k:q2)(h:p->q=q2:=by intro e;(try simp only[e,Ins.eta,Prog.eta,af,-eq_self]);rfl):p->q:=fun e=>(h e).symm▸k
def aeq:List (Nat×TI):=[(3,CU),
 (4,EH),
 (22,vd),
 (24,vb),
 (38,fT),
 (66,⟨ZB,9,(zN 9 220090000),[(0,38),(1,38),(2,38),(3,38),(4,4),(5,38),(6,38),(7,3),(8,3)],none,none,ZC,ZC,none,24,ZC,none,ZC,0⟩)]
def uX:∀t i,(t,i)∈aeq->TIok ZF t i:=bi B1 B1 (by kernel_rfl)
def c_vrd:Cd:=⟨31,[.agg kIns],[.one (.int .i64)],rd_Ins fun x _=>[.z (Dw x)],T0⟩
def Wl:Tr:=(.u (.cons (.f .shl .i64 (.p 1) (.w 6)) .nil))
def anU:Tr:=(.u (.cons (.f .or .i64 (.f .shl .i64 (.p 1) (.w 5)) (.p 0)) .nil))
def RN:Tr:=(.u (.cons (.f .or .i64 (.f .shl .i64 (.p 1) (.w 5)) (.f .shl .i64 (.p 1) (.w 6))) .nil))
def anV:Tr:=(.br (.eq (.w 0) (.p 5))
(.call 1 [.int .i64] (.cons (.w 8) .nil) 10
(.br (.lt (.f .add .i64 (.w 10) (.p 1)) (.p 0))
.panic
(.u (.cons (.f .sub .i64 (.f .shl .i64 (.p 1) (.f .add .i64 (.w 10) (.p 1))) (.p 2)) .nil))))
(.br (.eq (.w 0) (.p 6))
(.u (.cons (.p 1) .nil))
(.u (.cons (.p 0) .nil))))
def amc:Tr:=
(.call 0 [.bool] (.vs 0 4 (.j (.s 4) (.vs 5 4 .nil))) 9
(.br (.s 9)
(.br (.lt (.w 5) (.p 0))
.panic
(.br (.lt (.w 6) (.p 0))
.panic
(.br (.s 4)
(.br (.eq (.w 0) (.p 0))
(.br (.eq (.w 1) (.p 11))
Wl
RN)
(.br (.eq (.w 0) (.p 1))
Wl
(.br (.eq (.w 0) (.p 2))
RN
(.br (.eq (.w 0) (.p 3))
RN
anV))))
(.br (.eq (.w 0) (.p 0))
(.br (.eq (.w 1) (.p 11))
(.u (.cons (.p 0) .nil))
anU)
(.br (.eq (.w 0) (.p 1))
Wl
(.br (.eq (.w 0) (.p 2))
RN
(.br (.eq (.w 0) (.p 3))
anU
anV)))))))
(.u (.cons (.p 0) .nil))))
def auZ:c_vrd.Ok ZF:=
 AT amc (v_Ins []) uX (Am amM<|Am aqx AI) Tryz.func31<|iR fun x hx hp U g=>by
 simp only[eu,AB,ZD]at g;simp only[amc,anV,RN,anU,Wl,c_nmay,c_iargs,c_vrd,eu,Ai,ZH,ZD,-eq_self,Ins.eta,Prog.eta,af,g];refine nZ ?_;apply aI<;>intro c0;apply aI<;>intro c1
 .exact XH
 apply aI<;>intro c2
 .exact XH
 apply aI<;>intro c3;apply aI<;>intro c4;apply aI<;>intro c5
 .exact Xv
 .exact Xv
 apply aI<;>intro c6
 .exact Xv
 apply aI<;>intro c7
 .exact Xv
 apply aI<;>intro c8
 .exact Xv
 apply aI<;>intro c9;refine nZ ?_;apply aI<;>intro BF
 .exact XH
 .exact Xv
 apply aI<;>intro CG
 .exact Xv
 .exact Xv
 apply aI<;>intro Ca;apply aI<;>intro Cp
 .exact Xv
 .exact Xv
 apply aI<;>intro CD
 .exact Xv
 apply aI<;>intro C3
 .exact Xv
 apply aI<;>intro Dk
 .exact Xv
 apply aI<;>intro Dg;refine nZ ?_;apply aI<;>intro Dh
 .exact XH
 .exact Xv
 apply aI<;>intro DB
 .exact Xv
 .exact Xv
 .exact Xv
def jN:List Dt->Prop
 |[.z x0,.l x1]=>let f (pr:Prog):Prop:=pr.l.length<=maxLen;f ⟨x0,x1⟩
 |_=>False
def c_icheck:Cd:=⟨12,[.agg kProg],[.one (.int .i64),.one (.int .i64)],rd_Prog fun pr _=>[.z ((aV pr).1),.z ((aV pr).2)],jN⟩
def anS:Tr:=(.next 0 (.cons (.f .add .i64 (.w 4) (.p 1)) .nil))
def anT:E:=(.get (.g 1) (.f .sub .i64 (.len (.g 1)) (.p 1)) 0)
def pH:Tr:=
(.call 0 [.bool] (.cons (.w 0) (.cons (.p 0) (.cons (.p 256) .nil))) 2
(.br (.s 2)
(.call 0 [.bool] (.cons (.f .sub .i64 (.len (.g 1)) (.p 1)) (.cons (.p 0) (.cons (.p 63) .nil))) 3
(.br (.s 3)
(.loop 0 4 [.int .i64] (.cons (.p 0) .nil)
(.br (.lt (.w 4) (.len (.g 1)))
(.br (.lt (.w 4) (.p 0))
.panic
(.call 1 [.bool] (.ins (.g 1) (.w 4) .nil) 5
(.br (.s 5)
(.call 2 [.int .i64,.bool] (.cons (.w 4) (.ins (.g 1) (.w 4) .nil)) 6
(.br (.s 7)
(.call 0 [.bool] (.cons (.w 6) (.cons (.p 0) (.cons (.f .sub .i64 (.len (.g 1)) (.p 1)) .nil))) 8
(.br (.s 8)
anS
(.u (.cons (.w 4) (.cons (.p 32) .nil)))))
anS))
(.u (.cons (.w 4) (.cons (.p 31) .nil))))))
(.br (.lt (.f .sub .i64 (.len (.g 1)) (.p 1)) (.p 0))
.panic
(.br (.lt (.f .sub .i64 (.len (.g 1)) (.p 1)) (.len (.g 1)))
(.br (.eq anT (.p 4))
(.u (.cons (.p 0) (.cons (.p 0) .nil)))
(.br (.eq anT (.p 6))
(.u (.cons (.p 0) (.cons (.p 0) .nil)))
(.u (.cons (.f .sub .i64 (.len (.g 1)) (.p 1)) (.cons (.p 33) .nil)))))
.panic))))
(.u (.cons (.p 0) (.cons (.p 3) .nil)))))
(.u (.cons (.p 0) (.cons (.p 2) .nil)))))
def ags:cb aeq (FJ 0 [c_iwi,c_nmay,c_itgt]) [] [(7,[.tmpI 26 .i64]++E1 [(2,2),(5,4),(27,23)])] [] 200 Tryz.f12 c_icheck.a c_icheck.r (tp c_icheck.r) (v_Prog []) pH:=E0 (by kernel_rfl)
def ak5:c_icheck.Ok ZF:=
 GE (hl:=.inr (.inl ⟨(fun xs (h:jN xs) L hL=>by unfold jN at h;split at h<;>first|exact h.elim|(simp at hL;subst hL;exact h)),rfl⟩)) pH (v_Prog []) uX (Am QH<|Am amM<|Am amS AI) Tryz.func12 E2 ags<|gS fun pr WF hp U g=>by
 simp only[c_icheck,jN,dE,b2i_one,Ins.eta,Prog.eta,af]at hp;have Aq:=g;simp only[dE,eu,AB,ZD]at g;simp only[pH,anT,anS,c_iwi,c_nmay,c_itgt,c_icheck,dE,eu,Ai,ZH,ZD,-eq_self,Ins.eta,Prog.eta,af,g];refine nZ ?_;apply aI<;>intro c0;refine nZ ?_;apply aI<;>intro c1;refine⟨fun ds=>∃n:Nat,ds=[.z (n:Int)]/\n<=pr.l.length/\(Dq pr pr.l.length 0=Dq pr (pr.l.length-n) n),fun ds=>(pr.l.length-(dI ds 0).toNat),⟨0,rfl,Nat.zero_le _,rfl⟩,?_⟩;intro U1 AZ _ Ba;obtain⟨n,Bp,r1,r2⟩:=Ba;simp only[Be,Dt.z.injEq,and_true]at Bp;have g1:=(aW AZ _ 0 ST).trans Aq;simp only[dE,eu,AB,ZD]at g1;simp only[g1,Bp,af,-eq_self];apply aI<;>intro c2;apply aI<;>intro c3
 .exact absurd (Ah c3) Fn
 refine nZ ?_;apply aI<;>intro c4;refine nZ ?_;apply aI<;>intro c5;refine nZ ?_;apply aI<;>intro c6
 .exact⟨⟨n+1,by rw[G0 (ZZ.1 (Ah c2)) hp],ZZ.1 (Ah c2),r2.trans (mf (ZZ.1 (Ah c2)) (oT c4 (.inr c6)))⟩,by rw[G0 (ZZ.1 (Ah c2)) hp];have:=ZZ.1 (Ah c2);show pr.l.length-(((n+1:Nat):Int)).toNat<pr.l.length-((n:Int)).toNat;omega⟩
 .rw[iA c0 c1 r2 (ZZ.1 (Ah c2)) (oS c4 c5 c6)];try rfl
 .exact⟨⟨n+1,by rw[G0 (ZZ.1 (Ah c2)) hp],ZZ.1 (Ah c2),r2.trans (mf (ZZ.1 (Ah c2)) (oT c4 (.inl c5)))⟩,by rw[G0 (ZZ.1 (Ah c2)) hp];have:=ZZ.1 (Ah c2);show pr.l.length-(((n+1:Nat):Int)).toNat<pr.l.length-((n:Int)).toNat;omega⟩
 .rw[iA c0 c1 r2 (ZZ.1 (Ah c2)) (qK c4)];try rfl
 apply aI<;>intro c7
 .have q:=yU c1 hp;have w:=Ah c7;unfold Prog.last at q;omega
 apply aI<;>intro c8;apply aI<;>intro c9
 .rw[fN c0 c1 r2 (by have:=Ab c2;omega),if_pos (.inl (Br c9))];try rfl
 apply aI<;>intro BF
 .rw[fN c0 c1 r2 (by have:=Ab c2;omega),if_pos (.inr (Br BF))];try rfl
 .rw[fN c0 c1 r2 (by have:=Ab c2;omega),if_neg (fun h=>h.elim (Cc c9) (Cc BF))];try rfl
 .have q:=yU c1 hp;have w:=Ab c8;unfold Prog.last at q;omega
 .rw[nK c0 c1];try rfl
 .rw[nL c0];try rfl
def ah{s:Sc}{b:Bool}:nU t s b=if -1048576<=s.sl/\s.sh<=1048576 /\ -1048576<=(ao t s b).lo/\(ao t s b).lo<=1048576 /\ -1048576<=(ao t s b).hi/\(ao t s b).hi<=1048576 then ao t s b else tscal:=by unfold nU BK;simp only[ne,aB,and_assoc]
def bm:=aI Prog.eta (Ins.eta)
def aF{p:Prop}(k:q2)(h:p->q=q2:=by intro e;(try simp only[e,bF,bm,af,aL,-eq_self]);rfl):p->q:=fun e=>(h e).symm▸k
def xP:List (Nat×TI):=[(2,CB),
 (3,CU),
 (4,EH),
 (36,Vy),
 (38,fT),
 (39,eX),
 (46,gZ),
 (48,jl),
 (50,eM),
 (52,qS),
 (66,qP),
 (96,Vf),
 (149,al3),
 (159,⟨ZB,10,(zN 10 0),[],some (10,38),none,ZC,ZC,none,10,ZC,none,ZC,0⟩)]
def jB:∀t i,(t,i)∈xP->TIok ZF t i:=bi (DX (z:=Ei) ⟨ra,lh⟩<|DX (z:=Dr) ⟨qZ,lg⟩<|DX (z:=lQ) ⟨lj,ig⟩ B1) B1 (by kernel_rfl)
def yv:List Dt->Prop
 |[.z x0]=>let f (n:Int):Prop:= -64<=n/\n<=64;f x0
 |_=>False
def c_vbel:Cd:=⟨77,[.one (.int .i64)],[.agg kSc],rdZ fun n _=>d_Sc (HD (Ac .shr .u64 18446744073709551615 (Ac .sub .i64 64 n))) [],yv⟩
def anR:E:=(.f .shr .u64 (.p 18446744073709551615) (.f .sub .i64 (.p 64) (.w 0)))
def afG:Tr:=
(.br (.lt (.f .sub .i64 (.p 64) (.w 0)) (.p 0))
.panic
(.call 0 (kRg) .nil 1
(.call 1 (kSc) (.cons (.w 1) (.cons anR (.vs 3 2 (.cons (.p 0) (.cons anR .nil))))) 5
(.u (.vs 5 6 .nil)))))
def asV:c_vbel.Ok ZF:=
 AT afG [.int .i64] jB (Am nJ<|Am nH AI) Tryz.func77<|fun n hn hp U g=>by
 simp only[c_vbel,yv,AO,b2i_one,bF,bm,af,aL]at hp;simp only[AO,AJ,AB,ZD]at g;simp only[afG,anR,c_all,c_vnard,c_vbel,AO,AJ,Ai,ZH,ZD,-eq_self,bF,bm,af,aL,g];apply aI<;>intro c0
 ·(have h:ZG .i64 (64-n)<0:=Ah c0;have gn:=iP hn;rw[aP]at h;omega)
 refine aF ?_;refine aF ?_
 .rfl
def c_vby:Cd:=⟨36,[.one (.int .i64)],[.agg kSc],rdZ fun q _=>d_Sc (Dc q) [],T0⟩
def ame:Tr:=
(.call 0 (kSc) (.cons (.f .mul .i64 (.p 8) (.mn (.mx (.w 0) (.p 1)) (.p 8))) .nil) 1
(.u (.vs 1 6 .nil)))
def aqi:c_vby.Ok ZF:=
 AT ame [.int .i64] jB (Am asV AI) Tryz.func36<|fun q hq hp U g=>by
 simp only[AO,AB,ZD]at g;simp only[ame,c_vbel,c_vby,yv,AO,Ai,ZH,ZD,-eq_self,bF,bm,af,aL,g];refine⟨?_,?_⟩
 ·(show -64<=ZG .i64 (8*min (max q 1) 8)/\IntKind.i64.wrap (8*min (max q 1) 8)<=64;rw[aP];omega)
 refine aF ?_
 ·(refine aua ?_;unfold Dc;rcases zq q with h|h|h|h|h|h|h|h<;>rw[h]<;>rfl)
def aph(key:Nat):Sm:=⟨32,key,[.one (.int .u64)],[.one (.int .i64)],ZC⟩
def arT(x:Int):List Dt:=[.z (CO x)]
def Uq:List Dt->List Dt
 |[.z x0]=>arT x0
 |_=>[]
def ao9:Tr:=
(.call 0 [.int .i64] (.cons (.w 0) .nil) 1
(.u (.cons (.w 1) .nil)))
def ar0:Spec:={F:=fun k=>match k with|0=>pN|_=>fun _=>[],pre:=fun _ _=>True,hw:=Jc,hx:=UN,hi:=UK}
def auI:cb xP [yz 0] [] [] [] 200 Tryz.f32 [.one (.int .u64)] [.one (.int .i64)] ZC [.int .u64] ao9:=E0 (by kernel_rfl)
def auG(x:Int)(hx:Ae .u64 x=ZB):Cn ao9 ar0 [.int .u64] [.z x] Uq:=by
 intro U g;simp only[AB,ZD]at g;simp only[ao9,ar0,pN,afq,Uq,arT,Ai,ZH,ZD,-eq_self,bF,bm,af,aL,g];refine aF ?_
 ·(simp only[pN];try rfl)
def auJ{sp:Spec}(hF:sp.F key=Uq)(hP:sp.pre key=fun _=>True:=by rfl)(hH:∀w,sp.hw w->Jc w:=by exact fun _ h=>h):SmOk ZF sp (aph key):=Ut (s:=aph key) (hW:=hH) hF hP (by kernel_rfl) jB (EK (agu rfl) TC) Tryz.func32 E2 auI (.inl rfl) (fun x gx hp=>auG x gx)
def c_bnot:Cd:=⟨40,[.one (.int .i8)],[.one (.int .i8),.one .bool],rdZ fun cc _=>[.z (il cc),.z (AE (gv cc))],T0⟩
def agk:Tr:=
(.br (.lt (.w 0) (.p 0))
(.u (.cons (.p 0) (.j (.tt ZC) .nil)))
(.br (.lt (.w 0) (.p 10))
(.br (.eq (.w 0) (.p 0))
(.u (.cons (.p 1) (.j (.tt ZB) .nil)))
(.br (.eq (.w 0) (.p 1))
(.u (.cons (.p 0) (.j (.tt ZB) .nil)))
(.br (.eq (.w 0) (.p 2))
(.u (.cons (.p 5) (.j (.tt ZB) .nil)))
(.br (.eq (.w 0) (.p 3))
(.u (.cons (.p 4) (.j (.tt ZB) .nil)))
(.br (.eq (.w 0) (.p 4))
(.u (.cons (.p 3) (.j (.tt ZB) .nil)))
(.br (.eq (.w 0) (.p 5))
(.u (.cons (.p 2) (.j (.tt ZB) .nil)))
(.br (.eq (.w 0) (.p 6))
(.u (.cons (.p 9) (.j (.tt ZB) .nil)))
(.br (.eq (.w 0) (.p 7))
(.u (.cons (.p 8) (.j (.tt ZB) .nil)))
(.br (.eq (.w 0) (.p 8))
(.u (.cons (.p 7) (.j (.tt ZB) .nil)))
(.br (.eq (.w 0) (.p 9))
(.u (.cons (.p 6) (.j (.tt ZB) .nil)))
.panic))))))))))
(.u (.cons (.p 0) (.j (.tt ZC) .nil)))))
def atl:c_bnot.Ok ZF:=
 AT agk [.int .i8] jB AI Tryz.func40<|fun cc Cs hp U g=>by
 simp only[AB,ZD]at g;simp only[agk,c_bnot,Ai,ZH,ZD,-eq_self,bF,bm,af,aL,g];apply aI<;>intro c0
 .exact Xw
 apply aI<;>intro c1;apply aI<;>intro c2
 .exact Xw
 apply aI<;>intro c3
 .exact Xw
 apply aI<;>intro c4
 .exact Xw
 apply aI<;>intro c5
 .exact Xw
 apply aI<;>intro c6
 .exact Xw
 apply aI<;>intro c7
 .exact Xw
 apply aI<;>intro c8
 .exact Xw
 apply aI<;>intro c9
 .exact Xw
 apply aI<;>intro BF
 .exact Xw
 apply aI<;>intro CG
 .exact Xw
 ·(simp_all;omega)
 .exact Xw
def pJ:List Dt->Prop
 |[.l x0,.z x1,.z x2,.z x3,.z x4,.z x5,.z x6,.z x7,.z x8,.z x9,.z JH,.z Le,.z MD,.z N4,.z PA,.z Oz,.z N8,.z Nm,.z OW]=>let f (x:LL) (a:Ty) (b:Ty):Prop:=x.length=1;f x0 ⟨x1,x2,x3,x4,x5,x6,x7,x8,x9⟩ ⟨JH,Le,MD,N4,PA,Oz,N8,Nm,OW⟩
 |_=>False
def c_valu:Cd:=⟨34,[.one (.el (kN 9 220090000) 66),.agg kTy,.agg kTy],[.agg kTy],rdL fun x=>rd_Ty fun a=>rd_Ty fun b _=>d_Ty (Dp (aa x 0) a b) [],pJ⟩
def TB:E:=(.f .add .i64 (.w 27) (.f .sub .i64 (.p 0) (.w 31)))
def VE:E:=(.f .add .i64 (.w 26) (.f .sub .i64 (.p 0) (.w 32)))
def anN:Tr:=(.u (.cons (.p 1) (.vs 37 6 (.cons (.p 0) (.cons (.p 0) .nil)))))
def anO:Tr:=(.call 2 (kSc) (.cons (.p 4) .nil) 37
anN)
def anP:Tr:=(.br (.eq (.get (.g 0) (.p 0) 2) (.p 64))
(.br (.eq (.get (.g 0) (.p 0) 1) (.p 0))
(.br (.lt (.w 22) (.p (-1048576)))
(.call 3 (kTy) .nil 37
(.u (.vs 37 9 .nil)))
(.br (.lt (.p 1048576) (.w 23))
(.call 3 (kTy) .nil 37
(.u (.vs 37 9 .nil)))
(.br (.lt (.f .add .i64 (.w 35) (.w 22)) (.p (-1048576)))
(.call 3 (kTy) .nil 37
(.u (.vs 37 9 .nil)))
(.br (.lt (.p 1048576) (.f .add .i64 (.w 35) (.w 22)))
(.call 3 (kTy) .nil 37
(.u (.vs 37 9 .nil)))
(.br (.lt (.f .add .i64 (.w 36) (.w 23)) (.p (-1048576)))
(.call 3 (kTy) .nil 37
(.u (.vs 37 9 .nil)))
(.br (.lt (.p 1048576) (.f .add .i64 (.w 36) (.w 23)))
(.call 3 (kTy) .nil 37
(.u (.vs 37 9 .nil)))
(.u (.vs 28 7 (.cons (.f .add .i64 (.w 35) (.w 22)) (.cons (.f .add .i64 (.w 36) (.w 23)) .nil))))))))))
(.call 3 (kTy) .nil 37
(.u (.vs 37 9 .nil))))
anO)
def anQ:Tr:=(.br (.eq (.get (.g 0) (.p 0) 2) (.p 64))
(.br (.eq (.w 28) (.p 2))
(.call 3 (kTy) .nil 37
(.u (.vs 37 9 .nil)))
(.br (.eq (.w 28) (.p 3))
(.call 3 (kTy) .nil 37
(.u (.vs 37 9 .nil)))
(.br (.eq (.get (.g 0) (.p 0) 1) (.p 0))
(.br (.lt (.w 31) (.p (-1048576)))
(.call 3 (kTy) .nil 37
(.u (.vs 37 9 .nil)))
(.br (.lt (.p 1048576) (.w 32))
(.call 3 (kTy) .nil 37
(.u (.vs 37 9 .nil)))
(.br (.lt (.f .add .i64 (.w 26) (.w 31)) (.p (-1048576)))
(.call 3 (kTy) .nil 37
(.u (.vs 37 9 .nil)))
(.br (.lt (.p 1048576) (.f .add .i64 (.w 26) (.w 31)))
(.call 3 (kTy) .nil 37
(.u (.vs 37 9 .nil)))
(.br (.lt (.f .add .i64 (.w 27) (.w 32)) (.p (-1048576)))
(.call 3 (kTy) .nil 37
(.u (.vs 37 9 .nil)))
(.br (.lt (.p 1048576) (.f .add .i64 (.w 27) (.w 32)))
(.call 3 (kTy) .nil 37
(.u (.vs 37 9 .nil)))
(.u (.vs 19 7 (.cons (.f .add .i64 (.w 26) (.w 31)) (.cons (.f .add .i64 (.w 27) (.w 32)) .nil))))))))))
(.br (.eq (.get (.g 0) (.p 0) 1) (.p 1))
(.br (.lt (.w 31) (.p (-1048576)))
(.call 3 (kTy) .nil 37
(.u (.vs 37 9 .nil)))
(.br (.lt (.p 1048576) (.w 32))
(.call 3 (kTy) .nil 37
(.u (.vs 37 9 .nil)))
(.br (.lt VE (.p (-1048576)))
(.call 3 (kTy) .nil 37
(.u (.vs 37 9 .nil)))
(.br (.lt (.p 1048576) VE)
(.call 3 (kTy) .nil 37
(.u (.vs 37 9 .nil)))
(.br (.lt TB (.p (-1048576)))
(.call 3 (kTy) .nil 37
(.u (.vs 37 9 .nil)))
(.br (.lt (.p 1048576) TB)
(.call 3 (kTy) .nil 37
(.u (.vs 37 9 .nil)))
(.u (.vs 19 7 (.cons VE (.cons TB .nil))))))))))
(.call 3 (kTy) .nil 37
(.u (.vs 37 9 .nil)))))))
anO)
def yq:Tr:=
(.br (.lt (.p 0) (.len (.g 0)))
(.cut 0 19 [.int .i8,.int .u64,.int .u64,.int .i64,.int .i64,.int .u64,.int .u64,.int .i64,.int .i64,.int .i8,.int .u64,.int .u64,.int .i64,.int .i64,.int .u64,.int .u64,.int .i64,.int .i64]
(.br (.eq (.get (.g 0) (.p 0) 1) (.p 11))
(.br (.eq (.get (.g 0) (.p 0) 2) (.p 64))
(.u (.vs 10 9 .nil))
(.next 0 (.vs 10 9 (.vs 10 9 .nil))))
(.br (.eq (.get (.g 0) (.p 0) 1) (.p 8))
(.call 0 (kSc) (.cons (.p 0) .nil) 19
(.next 0 (.vs 1 9 (.cons (.p 1) (.vs 19 6 (.cons (.p 0) (.cons (.p 0) .nil)))))))
(.next 0 (.vs 1 18 .nil))))
(.br (.eq (.w 19) (.p 2))
anQ
(.br (.eq (.w 19) (.p 3))
anQ
(.br (.eq (.w 28) (.p 2))
anP
(.br (.eq (.w 28) (.p 3))
anP
(.call 1 (kSc) (.cons (.get (.g 0) (.p 0) 1) (.cons (.get (.g 0) (.p 0) 2) (.vs 20 6 (.vs 29 6 .nil)))) 37
anN))))))
(.stuck 54))
def ape:cb xP (FJ 0 [c_vone,c_vdo,c_vby,c_tscal]) [(73,Tryz.f73,[],[]),(33,Tryz.f33,[],[]),(75,Tryz.f75,[],[]),(114,Tryz.f114,[],[])] [(999997,[])] [(8,[.cels 1 0 (kN 9 221122110),.cels 2 0 (kN 9 221122110)]++E1 [(13,25)])] 200 Tryz.f34 c_valu.a c_valu.r (tp c_valu.r) (.list (kN 9 220090000)::v_Ty (v_Ty [])) yq:=E0 (by kernel_rfl)
def asW:c_valu.Ok ZF:=
 GE (hl:=.inr (.inl ⟨(fun xs (h:pJ xs) L hL=>by unfold pJ at h;split at h<;>first|exact h.elim|(simp at hL;subst hL;rw[h];unfold maxLen;omega)),rfl⟩)) yq (.list (kN 9 220090000)::v_Ty (v_Ty [])) jB (Am UJ<|Am au0<|Am aqi<|Am ql AI) Tryz.func34 (GB Tryz.func73 (GB Tryz.func33 (GB Tryz.func75 (GB Tryz.func114 E2)))) ape<|fun x hx=>bG fun a ha=>bG fun b hb hp U g=>by
 simp only[c_valu,pJ,AD,b2i_one,bF,bm,af,aL]at hp;have Aq:=g;simp only[AD,AO,AB,ZD]at g;simp only[yq,anQ,anP,anO,anN,VE,TB,c_vone,c_vdo,c_vby,c_tscal,c_valu,AD,AO,Ai,ZH,ZD,-eq_self,bF,bm,af,aL,g];apply aI<;>intro c0;refine⟨fun ds=>∃a1 b1:Ty,ds=d_Ty a1 (d_Ty b1 [])/\Dp (aa x 0) a b=bf (aa x 0).op (aa x 0).w a1 b1,?_,?_⟩;apply aI<;>intro c1;apply aI<;>intro c2
 .rw[va_m c1 c2];try rfl
 .exact⟨b,b,rfl,va_o c1 c2⟩
 apply aI<;>intro c3;refine aF ?_
 .exact⟨a,DO (B8 0),rfl,va_n c1 c3⟩
 .exact⟨a,b,rfl,va_e c1 c3⟩
 intro U1 AZ _ Ba;obtain⟨a1,b1,Ba,hj⟩:=Ba;have Aj:=(aW AZ _ 0 ST).trans Aq;have g1:=Aj;simp only[AD,AO,AB,ZD]at g1 Ba;simp only[g1,Ba,bF,bm,-eq_self]
 .repeat' first|apply aI<;>intro c|refine aF ?_|exact Fd
 ·(rw[hp]at c0;simp at c0)
def Ql:List C:=Ff Dr 11++(Ff Dr 8++[])
def aib:Tryz.prog.eqGuardType Tryz.prog.depth 56=ZC:=by kernel_rfl
def auT:Kl ZF 7 53 (Ff Dr 11):=Kl.array (d:=6) (fun vs hv=>ap8 vs hv) Tryz.underlying53 (by kernel_rfl) (by kernel_rfl)
def klA8:Kl ZF 7 54 (Ff Dr 8):=Kl.array (d:=6) (fun vs hv=>ap8 vs hv) Tryz.underlying54 (by kernel_rfl) (by kernel_rfl)
def asA:Kl ZF 8 56 Ql:=Kl.struct (KlSeq.cons auT (by rfl) (by kernel_rfl) (KlSeq.cons klA8 (by rfl) (by kernel_rfl) (KlSeq.nil _ _ _))) Tryz.underlying56 (by kernel_rfl) (by kernel_rfl)
def atC(vs:List Value)(hv:aH vs Ql):(Value.agg vs.toArray).formed ZF 56=ZB:=aif Tryz.underlying56 (by kernel_rfl) vs hv
def am9(vs us:List Value)(hv:aH vs Ql)(hu:aH us Ql)(w:World):(Op.equal 56 (.agg vs.toArray) (.agg us.toArray)).run ZF w=.ok (Df vs us) w:=iC (by kernel_rfl) atC 8 (fun vs hv=>asA vs hv) vs us hv hu w
def ag8{p:Prop}(k:q2)(h:p->q=q2:=by intro e;(try simp only[e,bF,bm,af,aL,-eq_self]);rfl):p->q:=fun e=>(h e).symm▸k
def xO:List (Nat×TI):=[(2,CB),
 (3,CU),
 (4,EH),
 (22,vd),
 (24,vb),
 (36,Vy),
 (38,fT),
 (39,eX),
 (46,gZ),
 (48,jl),
 (50,eM),
 (52,qS),
 (66,qP),
 (96,Vf),
 (149,al3)]
def lV:∀t i,(t,i)∈xO->TIok ZF t i:=bi (DX (z:=Ei) ⟨ra,lh⟩<|DX (z:=Dr) ⟨qZ,lg⟩<|DX (z:=lQ) ⟨lj,ig⟩ B1) B1 (by kernel_rfl)
def yu:List Dt->Prop
 |[.z x0]=>let f (n:Int):Prop:=1<=n/\n<=8;f x0
 |_=>False
def c_vcnt:Cd:=⟨115,[.one (.int .u64)],[.one (.int .i64)],rdZ fun n _=>[.z (Ck n)],yu⟩
def anI:E:=(.f .add .u64 (.f .and .u64 (.f .shr .u64 (.w 0) (.p 1)) (.p 6148914691236517205)) (.f .and .u64 (.w 0) (.p 6148914691236517205)))
def anJ:E:=(.f .add .u64 (.f .and .u64 (.f .shr .u64 anI (.p 2)) (.p 3689348814741910323)) (.f .and .u64 anI (.p 3689348814741910323)))
def anK:E:=(.f .and .u64 (.f .add .u64 (.f .shr .u64 anJ (.p 4)) anJ) (.p 1085102592571150095))
def anL:E:=(.f .add .u64 anK (.f .shr .u64 anK (.p 8)))
def anM:E:=(.f .add .u64 anL (.f .shr .u64 anL (.p 16)))
def yp:Tr:=
(.u (.cons (.f .and .i64 (.F .i64 (.f .add .u64 anM (.f .shr .u64 anM (.p 32)))) (.p 127)) .nil))
def apd:cb xO (FJ 0 []) [(158,Tryz.f158,[],[])] [] [] 200 Tryz.f115 c_vcnt.a c_vcnt.r (tp c_vcnt.r) [.int .u64] yp:=E0 (by kernel_rfl)
def asT:c_vcnt.Ok ZF:=
 GE yp [.int .u64] lV AI Tryz.func115 (GB Tryz.func158 E2) apd<|fun n hn hp U g=>by
 simp only[c_vcnt,yu,b2i_one,bF,bm,af,aL]at hp;simp only[AB,ZD]at g;simp only[yp,anM,anL,anK,anJ,anI,c_vcnt,Ai,ZH,ZD,-eq_self,bF,bm,af,aL,g]
 ·(rcases cnt8 hp with rfl|rfl|rfl|rfl|rfl|rfl|rfl|rfl<;>rfl)
def wd:List Dt->Prop
 |[.z x0,.l x1,.z x2,.z x3,.z x4,.z x5,.z x6,.z x7,.z x8,.z x9,.z JH,.z Le,.z MD]=>let f (p:Prog) (t:Ty) (off:Int) (size:Int):Prop:=p.l.length<=maxLen;f ⟨x0,x1⟩ ⟨x2,x3,x4,x5,x6,x7,x8,x9,JH⟩ Le MD
 |_=>False
def c_vwi:Cd:=⟨76,[.agg kProg,.agg kTy,.one (.int .i64),.one (.int .i64)],[.one .bool],rd_Prog fun p=>rd_Ty fun t=>rdZ fun off=>rdZ fun size _=>[.z (AE (aD p.ctx t off size))],wd⟩
def anH:E:=(.f .add .i64 (.f .add .i64 (.w 10) (.w 11)) (.w 12))
def afw:Tr:=
(.br (.eq (.w 2) (.p 2))
(.br (.lt (.w 12) (.p 1))
zlF
(.br (.lt (.p 8) (.w 12))
zlF
(.call 0 [.int .i64] (.cons (.F .u64 (.w 12)) .nil) 13
(.br (.eq (.w 13) (.p 1))
(.br (.lt (.w 11) (.p (-1048576)))
zlF
(.br (.lt (.p 1048576) (.w 11))
zlF
(.br (.lt (.w 9) (.p (-1048576)))
zlF
(.br (.lt (.p 1048576) (.w 9))
zlF
(.br (.lt (.w 10) (.p (-1048576)))
zlF
(.br (.lt (.p 1048576) (.w 10))
zlF
(.br (.lt (.w 10) (.w 9))
zlF
(.br (.lt (.f .add .i64 (.w 9) (.w 11)) (.p 0))
zlF
(.u (.j (.not (.lt (.w 0) anH)) .nil))))))))))
zlF))))
(.br (.eq (.w 2) (.p 3))
(.br (.lt (.w 12) (.p 1))
zlF
(.br (.lt (.p 8) (.w 12))
zlF
(.call 0 [.int .i64] (.cons (.F .u64 (.w 12)) .nil) 13
(.br (.eq (.w 13) (.p 1))
(.br (.lt (.w 11) (.p (-1048576)))
zlF
(.br (.lt (.p 1048576) (.w 11))
zlF
(.br (.lt (.w 9) (.p (-1048576)))
zlF
(.br (.lt (.p 1048576) (.w 9))
zlF
(.br (.lt (.w 10) (.p (-1048576)))
zlF
(.br (.lt (.p 1048576) (.w 10))
zlF
(.br (.lt (.w 10) (.w 9))
zlF
(.br (.lt (.f .add .i64 (.w 9) (.w 11)) (.p 0))
zlF
(.u (.j (.not (.lt (.p 64) anH)) .nil))))))))))
zlF))))
zlF))
def arW:cb xO (FJ 0 [c_vcnt]) [(73,Tryz.f73,[],[]),(114,Tryz.f114,[],[])] [(999997,[])] [] 200 Tryz.f76 c_vwi.a c_vwi.r (tp c_vwi.r) (v_Prog (v_Ty [.int .i64,.int .i64])) afw:=E0 (by kernel_rfl)
def auY:c_vwi.Ok ZF:=
 GE (hl:=.inr (.inl ⟨(fun xs (h:wd xs) L hL=>by unfold wd at h;split at h<;>first|exact h.elim|(simp at hL;subst hL;exact h)),rfl⟩)) afw (v_Prog (v_Ty [.int .i64,.int .i64])) lV (Am asT AI) Tryz.func76 (GB Tryz.func73 (GB Tryz.func114 E2)) arW<|gS fun p hp=>bG fun t ht=>fun off OK size I9 hp U g=>by
 simp only[c_vwi,wd,dE,AD,b2i_one,bF,bm,af,aL]at hp;simp only[dE,AD,AB,ZD]at g;simp only[afw,anH,c_vcnt,c_vwi,yu,dE,AD,Ai,ZH,ZD,-eq_self,bF,bm,af,aL,g];apply aI<;>intro c0;apply aI<;>intro c1
 .exact LT
 apply aI<;>intro c2
 .exact LT
 refine⟨?_,?_⟩
 ·(show 1<=ZG .u64 size/\IntKind.u64.wrap size<=8;rw[aT];have:=Ab c1;have:=Ab c2;omega)
 refine ag8 ?_
 .repeat' first|apply aI<;>intro c|exact LT
 apply aI<;>intro Ca;apply aI<;>intro Cp
 .exact LT
 apply aI<;>intro CD
 .exact LT
 refine⟨?_,?_⟩
 ·(show 1<=ZG .u64 size/\IntKind.u64.wrap size<=8;rw[aT];have:=Ab Cp;have:=Ab CD;omega)
 refine ag8 ?_
 .repeat' first|apply aI<;>intro c|exact LT
 .exact LT
def pK:List Dt->Prop
 |[.z x0,.l x1,.l x2,.z x3,.z x4,.z x5,.z x6,.z x7,.z x8,.z x9,.z JH,.z Le]=>let f (p:Prog) (x:LL) (t:Ty):Prop:=x.length=1/\p.l.length<=maxLen;f ⟨x0,x1⟩ x2 ⟨x3,x4,x5,x6,x7,x8,x9,JH,Le⟩
 |_=>False
def c_vacc:Cd:=⟨35,[.ptr kProg,.one (.el (kN 9 220090000) 66),.agg kTy],[.one (.int .i64),.one (.int .i64),.one .bool],rd_Prog fun p=>rdL fun x=>rd_Ty fun t _=>[.z (Ac .add .i64 t.lo (aa x 0).off),.z (Ac .add .i64 t.hi (aa x 0).off),.z (AE (aD p.ctx t (aa x 0).off (aa x 0).sz))],pK⟩
def afJ:Tr:=
(.br (.lt (.p 0) (.len (.g 2)))
(.call 0 [.bool] (.cons (.w 0) (.N (.g 1) (.vs 3 9 (.cons (.get (.g 2) (.p 0) 7) (.cons (.F .i64 (.get (.g 2) (.p 0) 3)) .nil))))) 12
(.u (.cons (.f .add .i64 (.w 10) (.get (.g 2) (.p 0) 7)) (.cons (.f .add .i64 (.w 11) (.get (.g 2) (.p 0) 7)) (.j (.s 12) .nil)))))
(.stuck 54))
def asX:c_vacc.Ok ZF:=
 AT (hl:=.inr (.inl ⟨(fun xs (h:pK xs) L hL=>by unfold pK at h;split at h<;>first|exact h.elim|(simp at hL;rcases hL with rfl|rfl;exact h.2;rw[h.1];unfold maxLen;omega)),rfl⟩)) afJ (v_Prog (.list (kN 9 220090000)::v_Ty [])) lV (Am auY AI) Tryz.func35<|gS fun p hp=>fun x hx=>bG fun t ht hp U g=>by
 simp only[c_vacc,pK,dE,AD,b2i_one,bF,bm,af,aL]at hp;simp only[dE,AD,AB,ZD]at g;simp only[afJ,c_vwi,c_vacc,wd,dE,AD,Ai,ZH,ZD,-eq_self,bF,bm,af,aL,g];apply aI<;>intro c0;refine⟨?_,?_⟩
 .exact hp.2
 refine ag8 ?_
 ·(rw[ato (aqM (fun r hr=>pR (hx.row r hr) (c:=3) (k:=some .i8) rfl) 0)];rfl)
 ·(rw[hp.1]at c0;simp at c0)
def c_vsca:Cd:=⟨33,[.agg kSc],[.agg kTy],rd_Sc fun s _=>d_Ty (ty 1 s 0 0) [],T0⟩
def afx:Tr:=
(.u (.cons (.p 1) (.vs 0 6 (.cons (.p 0) (.cons (.p 0) .nil)))))
def asO:c_vsca.Ok ZF:=
 AT afx (v_Sc []) lV AI Tryz.func33<|dt fun s hs hp U g=>by
 simp only[AO,AD,AB,ZD]at g;simp only[afx,c_vsca,AO,AD,Ai,ZH,ZD,-eq_self,bF,bm,af,aL,g]
 .rfl
def bl{p:Prop}(k:q2)(h:p->q=q2:=by intro e;(try simp only[e,bF,-eq_self]);rfl):p->q:=fun e=>(h e).symm▸k
def aen:List (Nat×TI):=[(2,CB),
 (3,CU),
 (5,KW),
 (38,fT),
 (39,eX),
 (46,gZ),
 (48,jl),
 (50,Qg),
 (52,zZ),
 (53,qR),
 (54,qQ),
 (56,uZ),
 (60,Su),
 (61,QA),
 (63,SJ)]
def dZ:∀t i,(t,i)∈aen->TIok ZF t i:=bi B1 B1 (by kernel_rfl)
def c_tword0:Cd:=⟨24,[.agg kFr,.one (.p .i64 0)],[.one (.int .u64)],rd_Fr fun f _=>[.z (w8 f.f0 f.f1 f.f2 f.f3 f.f4 f.f5 f.f6 f.f7)],T0⟩
def vS:Tr:=
(.u (.cons (.f .or .u64 (.f .or .u64 (.f .or .u64 (.f .or .u64 (.f .or .u64 (.f .or .u64 (.f .or .u64 (.f .or .u64 (.p 0) (.f .shl .u64 (.F .u64 (.w 0)) (.p 0))) (.f .shl .u64 (.F .u64 (.w 1)) (.p 8))) (.f .shl .u64 (.F .u64 (.w 2)) (.p 16))) (.f .shl .u64 (.F .u64 (.w 3)) (.p 24))) (.f .shl .u64 (.F .u64 (.w 4)) (.p 32))) (.f .shl .u64 (.F .u64 (.w 5)) (.p 40))) (.f .shl .u64 (.F .u64 (.w 6)) (.p 48))) (.f .shl .u64 (.F .u64 (.w 7)) (.p 56))) .nil))
def akS:c_tword0.Ok ZF:=
 AT vS (v_Fr []) dZ AI Tryz.func24<|oh fun f hf hp U g=>by
 simp only[c_tword0,jS,rdZ,rdB,rdL];simp only[B7,AB,ZD]at g;simp only[vS,DJ,c_tword0,B7,Ai,ZH,ZD,-eq_self,bF,g]
 .obtain⟨z0,z1,z2,z3,z4,z5,z6,z7,_⟩:=hf;exact zi Xs
def c_tword1:Cd:=⟨24,[.agg kFr,.one (.p .i64 1)],[.one (.int .u64)],rd_Fr fun f _=>[.z (w8 f.f8 f.f9 f.f10 f.f11 f.f12 f.f13 f.f14 f.f15)],T0⟩
def vR:Tr:=
(.u (.cons (.f .or .u64 (.f .or .u64 (.f .or .u64 (.f .or .u64 (.f .or .u64 (.f .or .u64 (.f .or .u64 (.f .or .u64 (.p 0) (.f .shl .u64 (.F .u64 (.w 8)) (.p 0))) (.f .shl .u64 (.F .u64 (.w 9)) (.p 8))) (.f .shl .u64 (.F .u64 (.w 10)) (.p 16))) (.f .shl .u64 (.F .u64 (.w 11)) (.p 24))) (.f .shl .u64 (.F .u64 (.w 12)) (.p 32))) (.f .shl .u64 (.F .u64 (.w 13)) (.p 40))) (.f .shl .u64 (.F .u64 (.w 14)) (.p 48))) (.f .shl .u64 (.F .u64 (.w 15)) (.p 56))) .nil))
def akR:c_tword1.Ok ZF:=
 AT vR (v_Fr []) dZ AI Tryz.func24<|oh fun f hf hp U g=>by
 simp only[c_tword1,jS,rdZ,rdB,rdL];simp only[B7,AB,ZD]at g;simp only[vR,DJ,c_tword1,B7,Ai,ZH,ZD,-eq_self,bF,g]
 .obtain⟨_,_,_,_,_,_,_,_,z0,z1,z2,z3,z4,z5,z6,z7,_⟩:=hf;exact zi Xs
def c_tword2:Cd:=⟨24,[.agg kFr,.one (.p .i64 2)],[.one (.int .u64)],rd_Fr fun f _=>[.z (w8 f.f16 f.f17 f.f18 f.f19 f.f20 f.f21 f.f22 f.f23)],T0⟩
def vQ:Tr:=
(.u (.cons (.f .or .u64 (.f .or .u64 (.f .or .u64 (.f .or .u64 (.f .or .u64 (.f .or .u64 (.f .or .u64 (.f .or .u64 (.p 0) (.f .shl .u64 (.F .u64 (.w 16)) (.p 0))) (.f .shl .u64 (.F .u64 (.w 17)) (.p 8))) (.f .shl .u64 (.F .u64 (.w 18)) (.p 16))) (.f .shl .u64 (.F .u64 (.w 19)) (.p 24))) (.f .shl .u64 (.F .u64 (.w 20)) (.p 32))) (.f .shl .u64 (.F .u64 (.w 21)) (.p 40))) (.f .shl .u64 (.F .u64 (.w 22)) (.p 48))) (.f .shl .u64 (.F .u64 (.w 23)) (.p 56))) .nil))
def akQ:c_tword2.Ok ZF:=
 AT vQ (v_Fr []) dZ AI Tryz.func24<|oh fun f hf hp U g=>by
 simp only[c_tword2,jS,rdZ,rdB,rdL];simp only[B7,AB,ZD]at g;simp only[vQ,DJ,c_tword2,B7,Ai,ZH,ZD,-eq_self,bF,g]
 .obtain⟨_,_,_,_,_,_,_,_,_,_,_,_,_,_,_,_,z0,z1,z2,z3,z4,z5,z6,z7,_⟩:=hf;exact zi Xs
def c_tword3:Cd:=⟨24,[.agg kFr,.one (.p .i64 3)],[.one (.int .u64)],rd_Fr fun f _=>[.z (w8 f.f24 f.f25 f.f26 f.f27 f.f28 f.f29 f.f30 f.f31)],T0⟩
def vP:Tr:=
(.u (.cons (.f .or .u64 (.f .or .u64 (.f .or .u64 (.f .or .u64 (.f .or .u64 (.f .or .u64 (.f .or .u64 (.f .or .u64 (.p 0) (.f .shl .u64 (.F .u64 (.w 24)) (.p 0))) (.f .shl .u64 (.F .u64 (.w 25)) (.p 8))) (.f .shl .u64 (.F .u64 (.w 26)) (.p 16))) (.f .shl .u64 (.F .u64 (.w 27)) (.p 24))) (.f .shl .u64 (.F .u64 (.w 28)) (.p 32))) (.f .shl .u64 (.F .u64 (.w 29)) (.p 40))) (.f .shl .u64 (.F .u64 (.w 30)) (.p 48))) (.f .shl .u64 (.F .u64 (.w 31)) (.p 56))) .nil))
def akP:c_tword3.Ok ZF:=
 AT vP (v_Fr []) dZ AI Tryz.func24<|oh fun f hf hp U g=>by
 simp only[c_tword3,jS,rdZ,rdB,rdL];simp only[B7,AB,ZD]at g;simp only[vP,DJ,c_tword3,B7,Ai,ZH,ZD,-eq_self,bF,g]
 .obtain⟨_,_,_,_,_,_,_,_,_,_,_,_,_,_,_,_,_,_,_,_,_,_,_,_,z0,z1,z2,z3,z4,z5,z6,z7,_⟩:=hf;exact zi Xs
def c_tword4:Cd:=⟨24,[.agg kFr,.one (.p .i64 4)],[.one (.int .u64)],rd_Fr fun f _=>[.z (w8 f.f32 f.f33 f.f34 f.f35 f.f36 f.f37 f.f38 f.f39)],T0⟩
def vO:Tr:=
(.u (.cons (.f .or .u64 (.f .or .u64 (.f .or .u64 (.f .or .u64 (.f .or .u64 (.f .or .u64 (.f .or .u64 (.f .or .u64 (.p 0) (.f .shl .u64 (.F .u64 (.w 32)) (.p 0))) (.f .shl .u64 (.F .u64 (.w 33)) (.p 8))) (.f .shl .u64 (.F .u64 (.w 34)) (.p 16))) (.f .shl .u64 (.F .u64 (.w 35)) (.p 24))) (.f .shl .u64 (.F .u64 (.w 36)) (.p 32))) (.f .shl .u64 (.F .u64 (.w 37)) (.p 40))) (.f .shl .u64 (.F .u64 (.w 38)) (.p 48))) (.f .shl .u64 (.F .u64 (.w 39)) (.p 56))) .nil))
def akO:c_tword4.Ok ZF:=
 AT vO (v_Fr []) dZ AI Tryz.func24<|oh fun f hf hp U g=>by
 simp only[c_tword4,jS,rdZ,rdB,rdL];simp only[B7,AB,ZD]at g;simp only[vO,DJ,c_tword4,B7,Ai,ZH,ZD,-eq_self,bF,g]
 .obtain⟨_,_,_,_,_,_,_,_,_,_,_,_,_,_,_,_,_,_,_,_,_,_,_,_,_,_,_,_,_,_,_,_,z0,z1,z2,z3,z4,z5,z6,z7,_⟩:=hf;exact zi Xs
def c_tword5:Cd:=⟨24,[.agg kFr,.one (.p .i64 5)],[.one (.int .u64)],rd_Fr fun f _=>[.z (w8 f.f40 f.f41 f.f42 f.f43 f.f44 f.f45 f.f46 f.f47)],T0⟩
def vN:Tr:=
(.u (.cons (.f .or .u64 (.f .or .u64 (.f .or .u64 (.f .or .u64 (.f .or .u64 (.f .or .u64 (.f .or .u64 (.f .or .u64 (.p 0) (.f .shl .u64 (.F .u64 (.w 40)) (.p 0))) (.f .shl .u64 (.F .u64 (.w 41)) (.p 8))) (.f .shl .u64 (.F .u64 (.w 42)) (.p 16))) (.f .shl .u64 (.F .u64 (.w 43)) (.p 24))) (.f .shl .u64 (.F .u64 (.w 44)) (.p 32))) (.f .shl .u64 (.F .u64 (.w 45)) (.p 40))) (.f .shl .u64 (.F .u64 (.w 46)) (.p 48))) (.f .shl .u64 (.F .u64 (.w 47)) (.p 56))) .nil))
def akN:c_tword5.Ok ZF:=
 AT vN (v_Fr []) dZ AI Tryz.func24<|oh fun f hf hp U g=>by
 simp only[c_tword5,jS,rdZ,rdB,rdL];simp only[B7,AB,ZD]at g;simp only[vN,DJ,c_tword5,B7,Ai,ZH,ZD,-eq_self,bF,g]
 .obtain⟨_,_,_,_,_,_,_,_,_,_,_,_,_,_,_,_,_,_,_,_,_,_,_,_,_,_,_,_,_,_,_,_,_,_,_,_,_,_,_,_,z0,z1,z2,z3,z4,z5,z6,z7,_⟩:=hf;exact zi Xs
def c_tword6:Cd:=⟨24,[.agg kFr,.one (.p .i64 6)],[.one (.int .u64)],rd_Fr fun f _=>[.z (w8 f.f48 f.f49 f.f50 f.f51 f.f52 f.f53 f.f54 f.f55)],T0⟩
def vM:Tr:=
(.u (.cons (.f .or .u64 (.f .or .u64 (.f .or .u64 (.f .or .u64 (.f .or .u64 (.f .or .u64 (.f .or .u64 (.f .or .u64 (.p 0) (.f .shl .u64 (.F .u64 (.w 48)) (.p 0))) (.f .shl .u64 (.F .u64 (.w 49)) (.p 8))) (.f .shl .u64 (.F .u64 (.w 50)) (.p 16))) (.f .shl .u64 (.F .u64 (.w 51)) (.p 24))) (.f .shl .u64 (.F .u64 (.w 52)) (.p 32))) (.f .shl .u64 (.F .u64 (.w 53)) (.p 40))) (.f .shl .u64 (.F .u64 (.w 54)) (.p 48))) (.f .shl .u64 (.F .u64 (.w 55)) (.p 56))) .nil))
def akM:c_tword6.Ok ZF:=
 AT vM (v_Fr []) dZ AI Tryz.func24<|oh fun f hf hp U g=>by
 simp only[c_tword6,jS,rdZ,rdB,rdL];simp only[B7,AB,ZD]at g;simp only[vM,DJ,c_tword6,B7,Ai,ZH,ZD,-eq_self,bF,g]
 .obtain⟨_,_,_,_,_,_,_,_,_,_,_,_,_,_,_,_,_,_,_,_,_,_,_,_,_,_,_,_,_,_,_,_,_,_,_,_,_,_,_,_,_,_,_,_,_,_,_,_,z0,z1,z2,z3,z4,z5,z6,z7,_⟩:=hf;exact zi Xs
def c_tword7:Cd:=⟨24,[.agg kFr,.one (.p .i64 7)],[.one (.int .u64)],rd_Fr fun f _=>[.z (w8 f.f56 f.f57 f.f58 f.f59 f.f60 f.f61 f.f62 f.f63)],T0⟩
def vL:Tr:=
(.u (.cons (.f .or .u64 (.f .or .u64 (.f .or .u64 (.f .or .u64 (.f .or .u64 (.f .or .u64 (.f .or .u64 (.f .or .u64 (.p 0) (.f .shl .u64 (.F .u64 (.w 56)) (.p 0))) (.f .shl .u64 (.F .u64 (.w 57)) (.p 8))) (.f .shl .u64 (.F .u64 (.w 58)) (.p 16))) (.f .shl .u64 (.F .u64 (.w 59)) (.p 24))) (.f .shl .u64 (.F .u64 (.w 60)) (.p 32))) (.f .shl .u64 (.F .u64 (.w 61)) (.p 40))) (.f .shl .u64 (.F .u64 (.w 62)) (.p 48))) (.f .shl .u64 (.F .u64 (.w 63)) (.p 56))) .nil))
def akL:c_tword7.Ok ZF:=
 AT vL (v_Fr []) dZ AI Tryz.func24<|oh fun f hf hp U g=>by
 simp only[c_tword7,jS,rdZ,rdB,rdL];simp only[B7,AB,ZD]at g;simp only[vL,DJ,c_tword7,B7,Ai,ZH,ZD,-eq_self,bF,g]
 .obtain⟨_,_,_,_,_,_,_,_,_,_,_,_,_,_,_,_,_,_,_,_,_,_,_,_,_,_,_,_,_,_,_,_,_,_,_,_,_,_,_,_,_,_,_,_,_,_,_,_,_,_,_,_,_,_,_,_,z0,z1,z2,z3,z4,z5,z6,z7⟩:=hf;exact zi Xs
def c_thas:Cd:=⟨9,[.agg kSta,.agg kSnap],[.one .bool],rd_Sta fun s=>rd_Snap fun x _=>[.z (AE (Ar s x))],T0⟩
def yr:Tr:=
(.call 0 [.bool] (.vs 0 171 .nil) 247
(.br (.s 247)
(.cut 0 248 []
(.br (.eq (.w 0) (.p 0))
(.call 1 [.bool] (.vs 0 9 (.cons (.w 171) .nil)) 248
(.br (.s 248)
(.next 0 .nil)
zlF))
(.br (.eq (.f .and .i64 (.f .shr .i64 (.w 182) (.p 0)) (.p 1)) (.p 1))
(.call 1 [.bool] (.vs 0 9 (.cons (.w 171) .nil)) 248
(.br (.s 248)
(.next 0 .nil)
zlF))
zlF))
(.cut 1 248 []
(.br (.eq (.w 9) (.p 0))
(.call 1 [.bool] (.vs 9 9 (.cons (.w 172) .nil)) 248
(.br (.s 248)
(.next 1 .nil)
zlF))
(.br (.eq (.f .and .i64 (.f .shr .i64 (.w 182) (.p 1)) (.p 1)) (.p 1))
(.call 1 [.bool] (.vs 9 9 (.cons (.w 172) .nil)) 248
(.br (.s 248)
(.next 1 .nil)
zlF))
zlF))
(.cut 2 248 []
(.br (.eq (.w 18) (.p 0))
(.call 1 [.bool] (.vs 18 9 (.cons (.w 173) .nil)) 248
(.br (.s 248)
(.next 2 .nil)
zlF))
(.br (.eq (.f .and .i64 (.f .shr .i64 (.w 182) (.p 2)) (.p 1)) (.p 1))
(.call 1 [.bool] (.vs 18 9 (.cons (.w 173) .nil)) 248
(.br (.s 248)
(.next 2 .nil)
zlF))
zlF))
(.cut 3 248 []
(.br (.eq (.w 27) (.p 0))
(.call 1 [.bool] (.vs 27 9 (.cons (.w 174) .nil)) 248
(.br (.s 248)
(.next 3 .nil)
zlF))
(.br (.eq (.f .and .i64 (.f .shr .i64 (.w 182) (.p 3)) (.p 1)) (.p 1))
(.call 1 [.bool] (.vs 27 9 (.cons (.w 174) .nil)) 248
(.br (.s 248)
(.next 3 .nil)
zlF))
zlF))
(.cut 4 248 []
(.br (.eq (.w 36) (.p 0))
(.call 1 [.bool] (.vs 36 9 (.cons (.w 175) .nil)) 248
(.br (.s 248)
(.next 4 .nil)
zlF))
(.br (.eq (.f .and .i64 (.f .shr .i64 (.w 182) (.p 4)) (.p 1)) (.p 1))
(.call 1 [.bool] (.vs 36 9 (.cons (.w 175) .nil)) 248
(.br (.s 248)
(.next 4 .nil)
zlF))
zlF))
(.cut 5 248 []
(.br (.eq (.w 45) (.p 0))
(.call 1 [.bool] (.vs 45 9 (.cons (.w 176) .nil)) 248
(.br (.s 248)
(.next 5 .nil)
zlF))
(.br (.eq (.f .and .i64 (.f .shr .i64 (.w 182) (.p 5)) (.p 1)) (.p 1))
(.call 1 [.bool] (.vs 45 9 (.cons (.w 176) .nil)) 248
(.br (.s 248)
(.next 5 .nil)
zlF))
zlF))
(.cut 6 248 []
(.br (.eq (.w 54) (.p 0))
(.call 1 [.bool] (.vs 54 9 (.cons (.w 177) .nil)) 248
(.br (.s 248)
(.next 6 .nil)
zlF))
(.br (.eq (.f .and .i64 (.f .shr .i64 (.w 182) (.p 6)) (.p 1)) (.p 1))
(.call 1 [.bool] (.vs 54 9 (.cons (.w 177) .nil)) 248
(.br (.s 248)
(.next 6 .nil)
zlF))
zlF))
(.cut 7 248 []
(.br (.eq (.w 63) (.p 0))
(.call 1 [.bool] (.vs 63 9 (.cons (.w 178) .nil)) 248
(.br (.s 248)
(.next 7 .nil)
zlF))
(.br (.eq (.f .and .i64 (.f .shr .i64 (.w 182) (.p 7)) (.p 1)) (.p 1))
(.call 1 [.bool] (.vs 63 9 (.cons (.w 178) .nil)) 248
(.br (.s 248)
(.next 7 .nil)
zlF))
zlF))
(.cut 8 248 []
(.br (.eq (.w 72) (.p 0))
(.call 1 [.bool] (.vs 72 9 (.cons (.w 179) .nil)) 248
(.br (.s 248)
(.next 8 .nil)
zlF))
(.br (.eq (.f .and .i64 (.f .shr .i64 (.w 182) (.p 8)) (.p 1)) (.p 1))
(.call 1 [.bool] (.vs 72 9 (.cons (.w 179) .nil)) 248
(.br (.s 248)
(.next 8 .nil)
zlF))
zlF))
(.cut 9 248 []
(.br (.eq (.w 81) (.p 0))
(.call 1 [.bool] (.vs 81 9 (.cons (.w 180) .nil)) 248
(.br (.s 248)
(.next 9 .nil)
zlF))
(.br (.eq (.f .and .i64 (.f .shr .i64 (.w 182) (.p 9)) (.p 1)) (.p 1))
(.call 1 [.bool] (.vs 81 9 (.cons (.w 180) .nil)) 248
(.br (.s 248)
(.next 9 .nil)
zlF))
zlF))
(.cut 10 248 []
(.br (.eq (.w 90) (.p 0))
(.call 1 [.bool] (.vs 90 9 (.cons (.w 181) .nil)) 248
(.br (.s 248)
(.next 10 .nil)
zlF))
(.br (.eq (.f .and .i64 (.f .shr .i64 (.w 182) (.p 10)) (.p 1)) (.p 1))
(.call 1 [.bool] (.vs 90 9 (.cons (.w 181) .nil)) 248
(.br (.s 248)
(.next 10 .nil)
zlF))
zlF))
(.call 2 [.int .u64] (.vs 183 64 .nil) 248
(.call 1 [.bool] (.vs 99 9 (.cons (.w 248) .nil)) 249
(.br (.s 249)
(.call 3 [.int .u64] (.vs 183 64 .nil) 250
(.call 1 [.bool] (.vs 108 9 (.cons (.w 250) .nil)) 251
(.br (.s 251)
(.call 4 [.int .u64] (.vs 183 64 .nil) 252
(.call 1 [.bool] (.vs 117 9 (.cons (.w 252) .nil)) 253
(.br (.s 253)
(.call 5 [.int .u64] (.vs 183 64 .nil) 254
(.call 1 [.bool] (.vs 126 9 (.cons (.w 254) .nil)) 255
(.br (.s 255)
(.call 6 [.int .u64] (.vs 183 64 .nil) 256
(.call 1 [.bool] (.vs 135 9 (.cons (.w 256) .nil)) 257
(.br (.s 257)
(.call 7 [.int .u64] (.vs 183 64 .nil) 258
(.call 1 [.bool] (.vs 144 9 (.cons (.w 258) .nil)) 259
(.br (.s 259)
(.call 8 [.int .u64] (.vs 183 64 .nil) 260
(.call 1 [.bool] (.vs 153 9 (.cons (.w 260) .nil)) 261
(.br (.s 261)
(.call 9 [.int .u64] (.vs 183 64 .nil) 262
(.call 1 [.bool] (.vs 162 9 (.cons (.w 262) .nil)) 263
(.br (.s 263)
zlT
zlF)))
zlF)))
zlF)))
zlF)))
zlF)))
zlF)))
zlF)))
zlF))))))))))))))
zlF))
def apf:cb aen (FJ 0 [c_tmay,c_thold,c_tword0,c_tword1,c_tword2,c_tword3,c_tword4,c_tword5,c_tword6,c_tword7]) [] [] [(10,[.top 14]++E1 [(4,4),(15,26)])] 400 Tryz.f9 c_thas.a c_thas.r (tp c_thas.r) (v_Sta (v_Snap [])) yr:=E0 (by kernel_rfl)
def as0:c_thas.Ok ZF:=
 GE yr (v_Sta (v_Snap [])) dZ (Am V0<|Am aqo<|Am akS<|Am akR<|Am akQ<|Am akP<|Am akO<|Am akN<|Am akM<|Am akL AI) Tryz.func9 E2 apf<|dS fun s hs=>abV fun x hx hp U g=>by
 have Aq:=g;simp only[c_thas,bT,fq,mr,rdZ,rdB,rdL];simp only[bX,AD,cN,B7,AB,ZD]at g;simp(maxSteps:=10000000) only[yr,Ki,c_tmay,c_thold,c_tword0,c_tword1,c_tword2,c_tword3,c_tword4,c_tword5,c_tword6,c_tword7,DJ,rdZ,rdB,rdL,c_thas,bX,AD,cN,B7,Ai,ZH,ZD,-eq_self,bF,g];refine bl ?_;apply aI<;>intro c0;refine⟨fun _=>rok x.set 0 s.r0 x.r0=ZB,?_,?_⟩;apply aI<;>intro c1;refine bl ?_;apply aI<;>intro c2
 .exact gD c1 c2
 .simp only[Ar,ce (set:=x.set) (i:=0) c2,aq,ap]
 apply aI<;>intro c3;refine bl ?_;apply aI<;>intro c4
 .exact gB c3 c4
 .simp only[Ar,ce (set:=x.set) (i:=0) c4,aq,ap]
 .simp only[Ar,gC (i:=0) (v:=x.r0) c1 c3,aq,ap]
 intro U0 Ll _ hi0;have FB:=(aW Ll _ 0 ST).trans Aq;have g0:=FB;simp only[bX,AD,cN,B7,AB,ZD]at g0;simp only[g0,-eq_self];refine⟨fun _=>rok x.set 1 s.r1 x.r1=ZB,?_,?_⟩;apply aI<;>intro c5;refine bl ?_;apply aI<;>intro c6
 .exact gD c5 c6
 .simp only[Ar,ce (set:=x.set) (i:=1) c6,aq,ap]
 apply aI<;>intro c7;refine bl ?_;apply aI<;>intro c8
 .exact gB c7 c8
 .simp only[Ar,ce (set:=x.set) (i:=1) c8,aq,ap]
 .simp only[Ar,gC (i:=1) (v:=x.r1) c5 c7,aq,ap]
 intro U1 AZ _ Ba;have Aj:=(aW AZ _ 0 ST).trans FB;have g1:=Aj;simp only[bX,AD,cN,B7,AB,ZD]at g1;simp only[g1,-eq_self];refine⟨fun _=>rok x.set 2 s.r2 x.r2=ZB,?_,?_⟩;apply aI<;>intro c9;refine bl ?_;apply aI<;>intro BF
 .exact gD c9 BF
 .simp only[Ar,ce (set:=x.set) (i:=2) BF,aq,ap]
 apply aI<;>intro CG;refine bl ?_;apply aI<;>intro Ca
 .exact gB CG Ca
 .simp only[Ar,ce (set:=x.set) (i:=2) Ca,aq,ap]
 .simp only[Ar,gC (i:=2) (v:=x.r2) c9 CG,aq,ap]
 intro U2 Cj _ Gx;have Fp:=(aW Cj _ 0 ST).trans Aj;have g2:=Fp;simp only[bX,AD,cN,B7,AB,ZD]at g2;simp only[g2,-eq_self];refine⟨fun _=>rok x.set 3 s.r3 x.r3=ZB,?_,?_⟩;apply aI<;>intro Cp;refine bl ?_;apply aI<;>intro CD
 .exact gD Cp CD
 .simp only[Ar,ce (set:=x.set) (i:=3) CD,aq,ap]
 apply aI<;>intro C3;refine bl ?_;apply aI<;>intro Dk
 .exact gB C3 Dk
 .simp only[Ar,ce (set:=x.set) (i:=3) Dk,aq,ap]
 .simp only[Ar,gC (i:=3) (v:=x.r3) Cp C3,aq,ap]
 intro U3 Bd _ Is;have FS:=(aW Bd _ 0 ST).trans Fp;have g3:=FS;simp only[bX,AD,cN,B7,AB,ZD]at g3;simp only[g3,-eq_self];refine⟨fun _=>rok x.set 4 s.r4 x.r4=ZB,?_,?_⟩;apply aI<;>intro Dg;refine bl ?_;apply aI<;>intro Dh
 .exact gD Dg Dh
 .simp only[Ar,ce (set:=x.set) (i:=4) Dh,aq,ap]
 apply aI<;>intro DB;refine bl ?_;apply aI<;>intro Dz
 .exact gB DB Dz
 .simp only[Ar,ce (set:=x.set) (i:=4) Dz,aq,ap]
 .simp only[Ar,gC (i:=4) (v:=x.r4) Dg DB,aq,ap]
 intro U4 ML _ PS;have FA:=(aW ML _ 0 ST).trans FS;have g4:=FA;simp only[bX,AD,cN,B7,AB,ZD]at g4;simp only[g4,-eq_self];refine⟨fun _=>rok x.set 5 s.r5 x.r5=ZB,?_,?_⟩;apply aI<;>intro EM;refine bl ?_;apply aI<;>intro FX
 .exact gD EM FX
 .simp only[Ar,ce (set:=x.set) (i:=5) FX,aq,ap]
 apply aI<;>intro G3;refine bl ?_;apply aI<;>intro HO
 .exact gB G3 HO
 .simp only[Ar,ce (set:=x.set) (i:=5) HO,aq,ap]
 .simp only[Ar,gC (i:=5) (v:=x.r5) EM G3,aq,ap]
 intro U5 LO _ Rp;have Fc:=(aW LO _ 0 ST).trans FA;have g5:=Fc;simp only[bX,AD,cN,B7,AB,ZD]at g5;simp only[g5,-eq_self];refine⟨fun _=>rok x.set 6 s.r6 x.r6=ZB,?_,?_⟩;apply aI<;>intro Gk;refine bl ?_;apply aI<;>intro JD
 .exact gD Gk JD
 .simp only[Ar,ce (set:=x.set) (i:=6) JD,aq,ap]
 apply aI<;>intro IA;refine bl ?_;apply aI<;>intro Jf
 .exact gB IA Jf
 .simp only[Ar,ce (set:=x.set) (i:=6) Jf,aq,ap]
 .simp only[Ar,gC (i:=6) (v:=x.r6) Gk IA,aq,ap]
 intro U6 LC _ Qm;have Fs:=(aW LC _ 0 ST).trans Fc;have g6:=Fs;simp only[bX,AD,cN,B7,AB,ZD]at g6;simp only[g6,-eq_self];refine⟨fun _=>rok x.set 7 s.r7 x.r7=ZB,?_,?_⟩;apply aI<;>intro Kd;refine bl ?_;apply aI<;>intro Kg
 .exact gD Kd Kg
 .simp only[Ar,ce (set:=x.set) (i:=7) Kg,aq,ap]
 apply aI<;>intro Kt;refine bl ?_;apply aI<;>intro JM
 .exact gB Kt JM
 .simp only[Ar,ce (set:=x.set) (i:=7) JM,aq,ap]
 .simp only[Ar,gC (i:=7) (v:=x.r7) Kd Kt,aq,ap]
 intro U7 Ls _ Q3;have FK:=(aW Ls _ 0 ST).trans Fs;have g7:=FK;simp only[bX,AD,cN,B7,AB,ZD]at g7;simp only[g7,-eq_self];refine⟨fun _=>rok x.set 8 s.r8 x.r8=ZB,?_,?_⟩;apply aI<;>intro K6;refine bl ?_;apply aI<;>intro KM
 .exact gD K6 KM
 .simp only[Ar,ce (set:=x.set) (i:=8) KM,aq,ap]
 apply aI<;>intro Ly;refine bl ?_;apply aI<;>intro LX
 .exact gB Ly LX
 .simp only[Ar,ce (set:=x.set) (i:=8) LX,aq,ap]
 .simp only[Ar,gC (i:=8) (v:=x.r8) K6 Ly,aq,ap]
 intro U8 ha8 _ hi8;have FV:=(aW ha8 _ 0 ST).trans FK;have g8:=FV;simp only[bX,AD,cN,B7,AB,ZD]at g8;simp only[g8,-eq_self];refine⟨fun _=>rok x.set 9 s.r9 x.r9=ZB,?_,?_⟩;apply aI<;>intro Ko;refine bl ?_;apply aI<;>intro Lu
 .exact gD Ko Lu
 .simp only[Ar,ce (set:=x.set) (i:=9) Lu,aq,ap]
 apply aI<;>intro LH;refine bl ?_;apply aI<;>intro KZ
 .exact gB LH KZ
 .simp only[Ar,ce (set:=x.set) (i:=9) KZ,aq,ap]
 .simp only[Ar,gC (i:=9) (v:=x.r9) Ko LH,aq,ap]
 intro U9 WD _ hi9;have E9:=(aW WD _ 0 ST).trans FV;have g9:=E9;simp only[bX,AD,cN,B7,AB,ZD]at g9;simp only[g9,-eq_self];refine⟨fun _=>rok x.set 10 s.r10 x.r10=ZB,?_,?_⟩;apply aI<;>intro KR;refine bl ?_;apply aI<;>intro Kb
 .exact gD KR Kb
 .simp only[Ar,ce (set:=x.set) (i:=10) Kb,aq,ap]
 apply aI<;>intro JY;refine bl ?_;apply aI<;>intro LF
 .exact gB JY LF
 .simp only[Ar,ce (set:=x.set) (i:=10) LF,aq,ap]
 .simp only[Ar,gC (i:=10) (v:=x.r10) KR JY,aq,ap]
 intro U10 OC _ Pm;have Hl:=(aW OC _ 0 ST).trans E9;have RD:=Hl;simp only[bX,AD,cN,B7,AB,ZD]at RD;simp only[RD,-eq_self];refine bl ?_;refine bl ?_;apply aI<;>intro Kh;refine bl ?_;refine bl ?_;apply aI<;>intro H9;refine bl ?_;refine bl ?_;apply aI<;>intro Ka;refine bl ?_;refine bl ?_;apply aI<;>intro Kc;refine bl ?_;refine bl ?_;apply aI<;>intro Kq;refine bl ?_;refine bl ?_;apply aI<;>intro J9;refine bl ?_;refine bl ?_;apply aI<;>intro Kj;refine bl ?_;refine bl ?_;apply aI<;>intro JR
 .simp only[Ar,aZ,c0,Kh,H9,Ka,Kc,Kq,J9,Kj,JR,hi0,Ba,Gx,Is,PS,Rp,Qm,Q3,hi8,hi9,Pm,Bool.and_true,Bool.true_and]
 .simp only[Ar,aZ,JR,aq,ap]
 .simp only[Ar,aZ,Kj,aq,ap]
 .simp only[Ar,aZ,J9,aq,ap]
 .simp only[Ar,aZ,Kq,aq,ap]
 .simp only[Ar,aZ,Kc,aq,ap]
 .simp only[Ar,aZ,Ka,aq,ap]
 .simp only[Ar,aZ,H9,aq,ap]
 .simp only[Ar,aZ,Kh,aq,ap]
 .simp only[Ar,c0,aq]
def qf{p:Prop}(k:q2)(h:p->q=q2:=by intro e;(try simp only[e,bF,bm,af,aL,-eq_self]);rfl):p->q:=fun e=>(h e).symm▸k
def aoD:List (Nat×TI):=[(2,CB),
 (3,CU),
 (38,fT),
 (39,eX),
 (46,gZ),
 (48,jl),
 (50,eM),
 (52,qS),
 (53,qR),
 (54,qQ),
 (56,uZ)]
def po:∀t i,(t,i)∈aoD->TIok ZF t i:=bi (DX (z:=Ei) ⟨ra,lh⟩<|DX (z:=Dr) ⟨qZ,lg⟩ B1) B1 (by kernel_rfl)
def c_tacc:Cd:=⟨78,[.agg kSta,.one (.int .i64),.one (.int .i64),.one (.int .i64)],[.one .bool],rd_Sta fun s=>rdZ fun lo=>rdZ fun hi=>rdZ fun size _=>[.z (AE (BJ s lo hi size))],T0⟩
def afP:Tr:=
(.br (.eq (.w 173) (.p 1))
(.br (.lt (.w 171) (.p 0))
zlF
(.br (.lt (.w 172) (.w 171))
zlF
(.br (.lt (.f .sub .i64 (.p 64) (.w 173)) (.w 172))
zlF
(.call 0 [.bool] (.vs 0 171 .nil) 174
(.u (.j (.s 174) .nil))))))
(.br (.eq (.w 173) (.p 2))
(.br (.lt (.w 171) (.p 0))
zlF
(.br (.lt (.w 172) (.w 171))
zlF
(.br (.lt (.f .sub .i64 (.p 64) (.w 173)) (.w 172))
zlF
(.call 0 [.bool] (.vs 0 171 .nil) 174
(.u (.j (.s 174) .nil))))))
(.br (.eq (.w 173) (.p 4))
(.br (.lt (.w 171) (.p 0))
zlF
(.br (.lt (.w 172) (.w 171))
zlF
(.br (.lt (.f .sub .i64 (.p 64) (.w 173)) (.w 172))
zlF
(.call 0 [.bool] (.vs 0 171 .nil) 174
(.u (.j (.s 174) .nil))))))
(.br (.eq (.w 173) (.p 8))
(.br (.lt (.w 171) (.p 0))
zlF
(.br (.lt (.w 172) (.w 171))
zlF
(.br (.lt (.f .sub .i64 (.p 64) (.w 173)) (.w 172))
zlF
(.call 0 [.bool] (.vs 0 171 .nil) 174
(.u (.j (.s 174) .nil))))))
zlF))))
def amJ:c_tacc.Ok ZF:=
 AT afP (v_Sta [.int .i64,.int .i64,.int .i64]) po (Am V0 AI) Tryz.func78<|dS fun s hs=>fun lo Nq hi Oc size I9 hp U g=>by
 simp only[c_tacc,bT,fq,rdZ,rdB,rdL];simp only[bX,AD,AB,ZD]at g;simp(maxSteps:=10000000) only[afP,Ki,c_tmay,rdZ,rdB,rdL,c_tacc,bX,AD,Ai,ZH,ZD,-eq_self,bF,bm,af,aL,g];apply aI<;>intro c0;apply aI<;>intro c1
 .rw[tx c1]
 apply aI<;>intro c2
 .rw[tB c2]
 apply aI<;>intro c3
 .rw[oB c3]
 refine qf ?_
 .rw[tA (.inl c0) c1 c2,c3,Bool.not_false,Bool.true_and]
 apply aI<;>intro c4;apply aI<;>intro c5
 .rw[tx c5]
 apply aI<;>intro c6
 .rw[tB c6]
 apply aI<;>intro c7
 .rw[oB c7]
 refine qf ?_
 .rw[tA (.inr (.inl c4)) c5 c6,c7,Bool.not_false,Bool.true_and]
 apply aI<;>intro c8;apply aI<;>intro c9
 .rw[tx c9]
 apply aI<;>intro BF
 .rw[tB BF]
 apply aI<;>intro CG
 .rw[oB CG]
 refine qf ?_
 .rw[tA (.inr (.inr (.inl c8))) c9 BF,CG,Bool.not_false,Bool.true_and]
 apply aI<;>intro Ca;apply aI<;>intro Cp
 .rw[tx Cp]
 apply aI<;>intro CD
 .rw[tB CD]
 apply aI<;>intro C3
 .rw[oB C3]
 refine qf ?_
 .rw[tA (.inr (.inr (.inr Ca))) Cp CD,C3,Bool.not_false,Bool.true_and]
 .rw[afg c0 c4 c8 Ca]
def c_texa:Cd:=⟨79,[.one (.int .i64),.one (.int .i64),.one (.int .i64)],[.one (.int .i64),.one .bool],rdZ fun lo=>rdZ fun hi=>rdZ fun size _=>[.z (Ac .quo .i64 lo 8),.z (AE (DW lo hi size))],T0⟩
def anG:Tr:=(.u (.cons (.f .quo .i64 (.w 0) (.p 8)) (.j (.tt ZC) .nil)))
def afO:Tr:=
(.br (.eq (.w 2) (.p 8))
(.br (.eq (.w 0) (.w 1))
(.u (.cons (.f .quo .i64 (.w 0) (.p 8)) (.j (.eq (.f .rem .i64 (.w 0) (.p 8)) (.p 0)) .nil)))
anG)
anG)
def amI:c_texa.Ok ZF:=
 AT afO [.int .i64,.int .i64,.int .i64] po AI Tryz.func79<|fun lo Nq hi Oc size I9 hp U g=>by
 simp only[AB,ZD]at g;simp only[afO,anG,c_texa,Ai,ZH,ZD,-eq_self,bF,bm,af,aL,g];apply aI<;>intro c0;apply aI<;>intro c1
 .unfold DW;rw[c0,c1];rfl
 .rw[aoS c1]
 .rw[aoT c0]
def c_tload:Cd:=⟨37,[.agg kSta,.one (.int .i64),.one (.int .i64),.one (.int .i64)],[.agg kTy,.one (.int .i64)],rd_Sta fun s=>rdZ fun lo=>rdZ fun hi=>rdZ fun size _=>d_Ty (ox s lo hi size) [.z (pw s lo hi size)],T0⟩
def aaL:Tr:=
(.call 0 [.bool] (.vs 0 174 .nil) 174
(.br (.s 174)
(.call 1 [.int .i64,.bool] (.vs 171 3 .nil) 175
(.br (.s 176)
(.br (.eq (.w 175) (.p 0))
(.u (.vs 99 9 (.cons (.p 0) .nil)))
(.br (.eq (.w 175) (.p 1))
(.u (.vs 108 9 (.cons (.p 0) .nil)))
(.br (.eq (.w 175) (.p 2))
(.u (.vs 117 9 (.cons (.p 0) .nil)))
(.br (.eq (.w 175) (.p 3))
(.u (.vs 126 9 (.cons (.p 0) .nil)))
(.br (.eq (.w 175) (.p 4))
(.u (.vs 135 9 (.cons (.p 0) .nil)))
(.br (.eq (.w 175) (.p 5))
(.u (.vs 144 9 (.cons (.p 0) .nil)))
(.br (.eq (.w 175) (.p 6))
(.u (.vs 153 9 (.cons (.p 0) .nil)))
(.br (.eq (.w 175) (.p 7))
(.u (.vs 162 9 (.cons (.p 0) .nil)))
.panic))))))))
(.call 2 (kSc) (.cons (.w 173) .nil) 177
(.u (.cons (.p 1) (.vs 177 6 (.zs [0,0,0] .nil)))))))
(.u (.zs [0,0,0,0,0,0,0,0,0,2] .nil))))
def aqm:c_tload.Ok ZF:=
 AT aaL (v_Sta [.int .i64,.int .i64,.int .i64]) po (Am amJ<|Am amI<|Am aqi AI) Tryz.func37<|dS fun s hs=>fun lo Nq hi Oc size I9 hp U g=>by
 simp only[c_tload,bT,fq,rdZ,rdB,rdL];simp only[bX,AD,AO,AB,ZD]at g;simp(maxSteps:=10000000) only[aaL,Ki,c_tacc,c_texa,c_vby,rdZ,rdB,rdL,c_tload,bX,AD,AO,Ai,ZH,ZD,-eq_self,bF,bm,af,aL,g];refine qf ?_;apply aI<;>intro c0;refine qf ?_;apply aI<;>intro c1;apply aI<;>intro c2
 .rw[(bK c0 c1).1,(bK c0 c1).2,A4 c2];rfl
 apply aI<;>intro c3
 .rw[(bK c0 c1).1,(bK c0 c1).2,A4 c3];rfl
 apply aI<;>intro c4
 .rw[(bK c0 c1).1,(bK c0 c1).2,A4 c4];rfl
 apply aI<;>intro c5
 .rw[(bK c0 c1).1,(bK c0 c1).2,A4 c5];rfl
 apply aI<;>intro c6
 .rw[(bK c0 c1).1,(bK c0 c1).2,A4 c6];rfl
 apply aI<;>intro c7
 .rw[(bK c0 c1).1,(bK c0 c1).2,A4 c7];rfl
 apply aI<;>intro c8
 .rw[(bK c0 c1).1,(bK c0 c1).2,A4 c8];rfl
 apply aI<;>intro c9
 .rw[(bK c0 c1).1,(bK c0 c1).2,A4 c9];rfl
 .exact agT c0 rfl c2 c3 c4 c5 c6 c7 c8 c9
 refine qf ?_
 .rw[(nn c0 c1).1,(nn c0 c1).2];rfl
 .rw[(aap c0).1,(aap c0).2];rfl
def UW{p:Prop}(k:q2)(h:p->q=q2:=by intro e;(try simp only[e,bF,bm,af,aL,-eq_self]);rfl):p->q:=fun e=>(h e).symm▸k
def aem:List (Nat×TI):=[(2,CB),
 (3,CU),
 (38,fT),
 (39,eX),
 (46,gZ),
 (48,jl),
 (50,eM),
 (52,qS),
 (53,qR),
 (54,qQ),
 (56,uZ)]
def aec:∀t i,(t,i)∈aem->TIok ZF t i:=bi (DX (z:=Ei) ⟨ra,lh⟩<|DX (z:=Dr) ⟨qZ,lg⟩ B1) B1 (by kernel_rfl)
def c_tstore:Cd:=⟨38,[.agg kSta,.one (.int .i64),.one (.int .i64),.one (.int .i64),.agg kTy],[.agg kSta,.one (.int .i64)],rd_Sta fun s=>rdZ fun lo=>rdZ fun hi=>rdZ fun size=>rd_Ty fun t _=>d_Sta (iY s lo hi size t) [.z (nj s lo hi size t)],T0⟩
def pA:Tr:=
(.call 0 [.bool] (.vs 0 174 .nil) 183
(.br (.s 183)
(.br (.eq (.w 174) (.p 0))
(.u (.zs [0,0,0,0,0,0,0,0,0,0,0,0,0,0,0,0,0,0,0,0,0,0,0,0,0,0,0,0,0,0,0,0,0,0,0,0,0,0,0,0,0,0,0,0,0,0,0,0,0,0,0,0,0,0,0,0,0,0,0,0,0,0,0,0,0,0,0,0,0,0,0,0,0,0,0,0,0,0,0,0,0,0,0,0,0,0,0,0,0,0,0,0,0,0,0,0,0,0,0,0,0,0,0,0,0,0,0,0,0,0,0,0,0,0,0,0,0,0,0,0,0,0,0,0,0,0,0,0,0,0,0,0,0,0,0,0,0,0,0,0,0,0,0,0,0,0,0,0,0,0,0,0,0,0,0,0,0,0,0,0,0,0,0,0,0,0,0,0,0,0,0,2] .nil))
(.call 2 [.bool] (.vs 174 9 .nil) 184
(.br (.s 184)
(.call 1 [.int .i64,.bool] (.vs 171 3 .nil) 185
(.br (.s 186)
(.br (.eq (.w 185) (.p 0))
(.u (.vs 0 99 (.vs 174 9 (.vs 108 63 (.cons (.p 0) .nil)))))
(.br (.eq (.w 185) (.p 1))
(.u (.vs 0 108 (.vs 174 9 (.vs 117 54 (.cons (.p 0) .nil)))))
(.br (.eq (.w 185) (.p 2))
(.u (.vs 0 117 (.vs 174 9 (.vs 126 45 (.cons (.p 0) .nil)))))
(.br (.eq (.w 185) (.p 3))
(.u (.vs 0 126 (.vs 174 9 (.vs 135 36 (.cons (.p 0) .nil)))))
(.br (.eq (.w 185) (.p 4))
(.u (.vs 0 135 (.vs 174 9 (.vs 144 27 (.cons (.p 0) .nil)))))
(.br (.eq (.w 185) (.p 5))
(.u (.vs 0 144 (.vs 174 9 (.vs 153 18 (.cons (.p 0) .nil)))))
(.br (.eq (.w 185) (.p 6))
(.u (.vs 0 153 (.vs 174 9 (.vs 162 9 (.cons (.p 0) .nil)))))
(.br (.eq (.w 185) (.p 7))
(.u (.vs 0 162 (.vs 174 9 (.cons (.p 0) .nil))))
.panic))))))))
(.loop 0 187 [.int .i64,.int .i8,.int .u64,.int .u64,.int .i64,.int .i64,.int .u64,.int .u64,.int .i64,.int .i64,.int .i8,.int .u64,.int .u64,.int .i64,.int .i64,.int .u64,.int .u64,.int .i64,.int .i64,.int .i8,.int .u64,.int .u64,.int .i64,.int .i64,.int .u64,.int .u64,.int .i64,.int .i64,.int .i8,.int .u64,.int .u64,.int .i64,.int .i64,.int .u64,.int .u64,.int .i64,.int .i64,.int .i8,.int .u64,.int .u64,.int .i64,.int .i64,.int .u64,.int .u64,.int .i64,.int .i64,.int .i8,.int .u64,.int .u64,.int .i64,.int .i64,.int .u64,.int .u64,.int .i64,.int .i64,.int .i8,.int .u64,.int .u64,.int .i64,.int .i64,.int .u64,.int .u64,.int .i64,.int .i64,.int .i8,.int .u64,.int .u64,.int .i64,.int .i64,.int .u64,.int .u64,.int .i64,.int .i64] (.cons (.f .quo .i64 (.w 171) (.p 8)) (.vs 99 72 .nil))
(.br (.lt (.f .quo .i64 (.f .sub .i64 (.f .add .i64 (.w 172) (.w 173)) (.p 1)) (.p 8)) (.w 187))
(.u (.vs 0 99 (.vs 188 72 (.cons (.p 0) .nil))))
(.call 3 (kTy) .nil 260
(.br (.eq (.w 187) (.p 0))
(.next 0 (.cons (.f .add .i64 (.w 187) (.p 1)) (.vs 260 9 (.vs 197 63 .nil))))
(.br (.eq (.w 187) (.p 1))
(.next 0 (.cons (.f .add .i64 (.w 187) (.p 1)) (.vs 188 9 (.vs 260 9 (.vs 206 54 .nil)))))
(.br (.eq (.w 187) (.p 2))
(.next 0 (.cons (.f .add .i64 (.w 187) (.p 1)) (.vs 188 18 (.vs 260 9 (.vs 215 45 .nil)))))
(.br (.eq (.w 187) (.p 3))
(.next 0 (.cons (.f .add .i64 (.w 187) (.p 1)) (.vs 188 27 (.vs 260 9 (.vs 224 36 .nil)))))
(.br (.eq (.w 187) (.p 4))
(.next 0 (.cons (.f .add .i64 (.w 187) (.p 1)) (.vs 188 36 (.vs 260 9 (.vs 233 27 .nil)))))
(.br (.eq (.w 187) (.p 5))
(.next 0 (.cons (.f .add .i64 (.w 187) (.p 1)) (.vs 188 45 (.vs 260 9 (.vs 242 18 .nil)))))
(.br (.eq (.w 187) (.p 6))
(.next 0 (.cons (.f .add .i64 (.w 187) (.p 1)) (.vs 188 54 (.vs 260 9 (.vs 251 9 .nil)))))
(.br (.eq (.w 187) (.p 7))
(.next 0 (.cons (.f .add .i64 (.w 187) (.p 1)) (.vs 188 63 (.vs 260 9 .nil))))
.panic)))))))))))))
(.u (.zs [0,0,0,0,0,0,0,0,0,0,0,0,0,0,0,0,0,0,0,0,0,0,0,0,0,0,0,0,0,0,0,0,0,0,0,0,0,0,0,0,0,0,0,0,0,0,0,0,0,0,0,0,0,0,0,0,0,0,0,0,0,0,0,0,0,0,0,0,0,0,0,0,0,0,0,0,0,0,0,0,0,0,0,0,0,0,0,0,0,0,0,0,0,0,0,0,0,0,0,0,0,0,0,0,0,0,0,0,0,0,0,0,0,0,0,0,0,0,0,0,0,0,0,0,0,0,0,0,0,0,0,0,0,0,0,0,0,0,0,0,0,0,0,0,0,0,0,0,0,0,0,0,0,0,0,0,0,0,0,0,0,0,0,0,0,0,0,0,0,0,0,2] .nil)))))
(.u (.zs [0,0,0,0,0,0,0,0,0,0,0,0,0,0,0,0,0,0,0,0,0,0,0,0,0,0,0,0,0,0,0,0,0,0,0,0,0,0,0,0,0,0,0,0,0,0,0,0,0,0,0,0,0,0,0,0,0,0,0,0,0,0,0,0,0,0,0,0,0,0,0,0,0,0,0,0,0,0,0,0,0,0,0,0,0,0,0,0,0,0,0,0,0,0,0,0,0,0,0,0,0,0,0,0,0,0,0,0,0,0,0,0,0,0,0,0,0,0,0,0,0,0,0,0,0,0,0,0,0,0,0,0,0,0,0,0,0,0,0,0,0,0,0,0,0,0,0,0,0,0,0,0,0,0,0,0,0,0,0,0,0,0,0,0,0,0,0,0,0,0,0,2] .nil))))
def agl:cb aem (FJ 0 [c_tacc,c_texa,c_ttok,c_tscal]) [] [(8,[.tmpI 14 .i64,.cI 0 99 .i8,.cI 0 100 .u64,.cI 0 101 .u64,.cI 0 102 .i64,.cI 0 103 .i64,.cI 0 104 .u64,.cI 0 105 .u64,.cI 0 106 .i64,.cI 0 107 .i64,.cI 0 108 .i8,.cI 0 109 .u64,.cI 0 110 .u64,.cI 0 111 .i64,.cI 0 112 .i64,.cI 0 113 .u64,.cI 0 114 .u64,.cI 0 115 .i64,.cI 0 116 .i64,.cI 0 117 .i8,.cI 0 118 .u64,.cI 0 119 .u64,.cI 0 120 .i64,.cI 0 121 .i64,.cI 0 122 .u64,.cI 0 123 .u64,.cI 0 124 .i64,.cI 0 125 .i64,.cI 0 126 .i8,.cI 0 127 .u64,.cI 0 128 .u64,.cI 0 129 .i64,.cI 0 130 .i64,.cI 0 131 .u64,.cI 0 132 .u64,.cI 0 133 .i64,.cI 0 134 .i64,.cI 0 135 .i8,.cI 0 136 .u64,.cI 0 137 .u64,.cI 0 138 .i64,.cI 0 139 .i64,.cI 0 140 .u64,.cI 0 141 .u64,.cI 0 142 .i64,.cI 0 143 .i64,.cI 0 144 .i8,.cI 0 145 .u64,.cI 0 146 .u64,.cI 0 147 .i64,.cI 0 148 .i64,.cI 0 149 .u64,.cI 0 150 .u64,.cI 0 151 .i64,.cI 0 152 .i64,.cI 0 153 .i8,.cI 0 154 .u64,.cI 0 155 .u64,.cI 0 156 .i64,.cI 0 157 .i64,.cI 0 158 .u64,.cI 0 159 .u64,.cI 0 160 .i64,.cI 0 161 .i64,.cI 0 162 .i8,.cI 0 163 .u64,.cI 0 164 .u64,.cI 0 165 .i64,.cI 0 166 .i64,.cI 0 167 .u64,.cI 0 168 .u64,.cI 0 169 .i64,.cI 0 170 .i64]++E1 [(0,2),(4,1),(6,4),(11,3),(15,46)])] [] 200 Tryz.f38 c_tstore.a c_tstore.r (tp c_tstore.r) (v_Sta (.int .i64::.int .i64::.int .i64::v_Ty [])) pA:=E0 (by kernel_rfl)
def akT:c_tstore.Ok ZF:=
 GE pA (v_Sta (.int .i64::.int .i64::.int .i64::v_Ty [])) aec (Am amJ<|Am amI<|Am Wz<|Am ql AI) Tryz.func38 E2 agl<|dS fun s hs=>fun lo Nq hi Oc size I9=>bG fun t ht hp U g=>by
 have Aq:=g;simp only[c_tstore,bT,fq,rdZ,rdB,rdL];simp only[bX,AD,AB,ZD]at g;simp(maxSteps:=10000000) only[pA,Ki,c_tacc,c_texa,c_ttok,c_tscal,rdZ,rdB,rdL,c_tstore,bX,AD,Ai,ZH,ZD,-eq_self,bF,bm,af,aL,g];refine UW ?_;apply aI<;>intro c0;apply aI<;>intro c1
 .rw[(iy (.inr (WH c1))).1,(iy (.inr (WH c1))).2];rfl
 refine UW ?_;apply aI<;>intro c2;refine UW ?_;apply aI<;>intro c3;apply aI<;>intro c4
 .have e:=A4 c4;rw[(bg c0 (ed c1 c2) c3).1,(bg c0 (ed c1 c2) c3).2,e];rfl
 apply aI<;>intro c5
 .have e:=A4 c5;rw[(bg c0 (ed c1 c2) c3).1,(bg c0 (ed c1 c2) c3).2,e];rfl
 apply aI<;>intro c6
 .have e:=A4 c6;rw[(bg c0 (ed c1 c2) c3).1,(bg c0 (ed c1 c2) c3).2,e];rfl
 apply aI<;>intro c7
 .have e:=A4 c7;rw[(bg c0 (ed c1 c2) c3).1,(bg c0 (ed c1 c2) c3).2,e];rfl
 apply aI<;>intro c8
 .have e:=A4 c8;rw[(bg c0 (ed c1 c2) c3).1,(bg c0 (ed c1 c2) c3).2,e];rfl
 apply aI<;>intro c9
 .have e:=A4 c9;rw[(bg c0 (ed c1 c2) c3).1,(bg c0 (ed c1 c2) c3).2,e];rfl
 apply aI<;>intro BF
 .have e:=A4 BF;rw[(bg c0 (ed c1 c2) c3).1,(bg c0 (ed c1 c2) c3).2,e];rfl
 apply aI<;>intro CG
 .have e:=A4 CG;rw[(bg c0 (ed c1 c2) c3).1,(bg c0 (ed c1 c2) c3).2,e];rfl
 .exact agT c0 rfl c4 c5 c6 c7 c8 c9 BF CG
 obtain⟨q1,q2,q3,q4,q5⟩:=nm c0;refine⟨fun ds=>∃n:Int,ds=.z n::arN (BA s (CI (lo / 8) n) tscal)/\lo / 8<=n/\n<=(hi+size-1) / 8+1,fun ds=>(100-dI ds 0).toNat,⟨lo / 8,by rw[Nw q2 Fn,aeV (fun k h0 h1=>by unfold CI;simp)];try rfl,by omega,by omega⟩,?_⟩;intro U1 AZ _ Ba;obtain⟨n,Bp,r1,r2⟩:=Ba;simp only[arN,Be,Dt.z.injEq,ZD,and_true]at Bp;have Aj:=(aW AZ _ 0 ST).trans Aq;have g1:=Aj;simp only[bX,AD,AB,ZD]at g1;simp only[g1,Bp,-eq_self];apply aI<;>intro Ca
 .have h9:=Ah Ca;have q6:=(qW c0).1;rw[q6]at h9;rw[(lz c0 (ed c1 c2) c3).1,(lz c0 (ed c1 c2) c3).2,<-aqW c0 (n:=n) Fn Fn];rfl
 refine UW ?_;apply aI<;>intro Cp
 .have h9:=Ab Ca;have q6:=(qW c0).1;rw[q6]at h9;have e:=A4 Cp;subst e;refine⟨⟨1,?_,by omega,by omega⟩,?_⟩
  .rw[ajX (q:=CI (lo / 8) 1) (p:=CI (lo / 8) 0) (fun k _ _=>gW (n:=0) Fn)];rfl
  .show(100-(1:Int)).toNat<(100-(0:Int)).toNat;decide
 apply aI<;>intro CD
 .have h9:=Ab Ca;have q6:=(qW c0).1;rw[q6]at h9;have e:=A4 CD;subst e;refine⟨⟨2,?_,by omega,by omega⟩,?_⟩
  .rw[ajW (q:=CI (lo / 8) 2) (p:=CI (lo / 8) 1) (fun k _ _=>gW (n:=1) Fn)];rfl
  .show(100-(2:Int)).toNat<(100-(1:Int)).toNat;decide
 apply aI<;>intro C3
 .have h9:=Ab Ca;have q6:=(qW c0).1;rw[q6]at h9;have e:=A4 C3;subst e;refine⟨⟨3,?_,by omega,by omega⟩,?_⟩
  .rw[ajV (q:=CI (lo / 8) 3) (p:=CI (lo / 8) 2) (fun k _ _=>gW (n:=2) Fn)];rfl
  .show(100-(3:Int)).toNat<(100-(2:Int)).toNat;decide
 apply aI<;>intro Dk
 .have h9:=Ab Ca;have q6:=(qW c0).1;rw[q6]at h9;have e:=A4 Dk;subst e;refine⟨⟨4,?_,by omega,by omega⟩,?_⟩
  .rw[ajU (q:=CI (lo / 8) 4) (p:=CI (lo / 8) 3) (fun k _ _=>gW (n:=3) Fn)];rfl
  .show(100-(4:Int)).toNat<(100-(3:Int)).toNat;decide
 apply aI<;>intro Dg
 .have h9:=Ab Ca;have q6:=(qW c0).1;rw[q6]at h9;have e:=A4 Dg;subst e;refine⟨⟨5,?_,by omega,by omega⟩,?_⟩
  .rw[ajT (q:=CI (lo / 8) 5) (p:=CI (lo / 8) 4) (fun k _ _=>gW (n:=4) Fn)];rfl
  .show(100-(5:Int)).toNat<(100-(4:Int)).toNat;decide
 apply aI<;>intro Dh
 .have h9:=Ab Ca;have q6:=(qW c0).1;rw[q6]at h9;have e:=A4 Dh;subst e;refine⟨⟨6,?_,by omega,by omega⟩,?_⟩
  .rw[ajS (q:=CI (lo / 8) 6) (p:=CI (lo / 8) 5) (fun k _ _=>gW (n:=5) Fn)];rfl
  .show(100-(6:Int)).toNat<(100-(5:Int)).toNat;decide
 apply aI<;>intro DB
 .have h9:=Ab Ca;have q6:=(qW c0).1;rw[q6]at h9;have e:=A4 DB;subst e;refine⟨⟨7,?_,by omega,by omega⟩,?_⟩
  .rw[ajR (q:=CI (lo / 8) 7) (p:=CI (lo / 8) 6) (fun k _ _=>gW (n:=6) Fn)];rfl
  .show(100-(7:Int)).toNat<(100-(6:Int)).toNat;decide
 apply aI<;>intro Dz
 .have h9:=Ab Ca;have q6:=(qW c0).1;rw[q6]at h9;have e:=A4 Dz;subst e;refine⟨⟨8,?_,by omega,by omega⟩,?_⟩
  .rw[ajQ (q:=CI (lo / 8) 8) (p:=CI (lo / 8) 7) (fun k _ _=>gW (n:=7) Fn)];rfl
  .show(100-(8:Int)).toNat<(100-(7:Int)).toNat;decide
 .have h9:=Ab Ca;have q6:=(qW c0).1;rw[q6]at h9;simp only[beq_eq_false_iff_ne]at Cp CD C3 Dk Dg Dh DB Dz;omega
 .rw[(iy (.inr (alZ c2))).1,(iy (.inr (alZ c2))).2];rfl
 .rw[(iy (.inl c0)).1,(iy (.inl c0)).2];rfl
def avX(x:Ins):c_vrd.F (d_Ins x [])=[.z (Dw x)]:=by show[Dt.z (Dw ⟨x.k,x.op,x.w,x.sz,AE x.br==1,x.d,x.s,x.off,x.imm⟩)]=_;rw[b2i_one]
def aul(i:Int)(x:Ins):c_itgt.F (.z i::d_Ins x [])=[.z (AN i x).1,.z (AE (AN i x).2)]:=by show[Dt.z (AN i ⟨x.k,x.op,x.w,x.sz,AE x.br==1,x.d,x.s,x.off,x.imm⟩).1,.z (AE (AN i ⟨x.k,x.op,x.w,x.sz,AE x.br==1,x.d,x.s,x.off,x.imm⟩).2)]=_;rw[b2i_one]
def auj(x:Ins)(a b:Ty):c_valu.F (.l (ES x)::d_Ty a (d_Ty b []))=d_Ty (Dp x a b) []:=by show d_Ty (Dp (aa (ES x) 0) a b) []=_;rw[ahR]
def anj(c:Int)(l:LL)(x:Ins)(t:Ty):c_vacc.F (.z c::.l l::.l (ES x)::d_Ty t [])=[.z (Ip t x),.z (IT t x),.z (AE (aD c t x.off x.sz))]:=by show[Dt.z (Ac .add .i64 t.lo (aa (ES x) 0).off),.z (Ac .add .i64 t.hi (aa (ES x) 0).off),.z (AE (aD c t (aa (ES x) 0).off (aa (ES x) 0).sz))]=_;rw[ahR];rfl
def arm(s:Sta)(lo hi z:Int):c_tload.F (d_Sta s [.z lo,.z hi,.z z])=d_Ty (ox s lo hi z) [.z (pw s lo hi z)]:=by simp only[c_tload];rw[bT];rfl
def alM(s:Sta)(lo hi z:Int)(t:Ty):c_tstore.F (d_Sta s (.z lo::.z hi::.z z::d_Ty t []))=d_Sta (iY s lo hi z t) [.z (nj s lo hi z t)]:=by simp only[c_tstore];rw[bT];rfl
def ave(h:k<64):Ac .add .i64 (k:Int) 1=((k+1:Nat):Int):=by show IntKind.i64.wrap _=_;rw[aP];omega
def VB(U:Env)(n:Nat):Sc:=⟨U.i n,U.i (n+1),U.i (n+2),U.i (n+3),U.i (n+4),U.i (n+5)⟩
def Ub(U:Env)(n:Nat)(t:E):(E.vs n 6 t).D U=d_Sc (VB U n) (t.D U):=by kernel_rfl
def avZ(U:Env)(e:E)(n:Nat)(t:E):(E.tn e (n+1) 6 t).D U=d_Sc (Ao (Dv U n) (e.I U)).s (t.D U):=by kernel_rfl
def auF(U:Env)(n:Nat):VB U (n+1)=(C6 U n).s:=by kernel_rfl
def aqV{s:Sc}{r:List Dt}(h:eqs U (d_Sc s r) v0 0 (kSc++ks)):VB U v0=s/\eqs U (d_Sc s r) v0 6 ks:=by obtain⟨h0,h1,h2,h3,h4,h5,h6⟩:=h;refine⟨?_,h6⟩;have e0:U.i v0=s.ul:=h0;have e1:U.i (v0+1)=s.uh:=h1;have e2:U.i (v0+2)=s.sl:=h2;have e3:U.i (v0+3)=s.sh:=h3;have e4:U.i (v0+4)=s.v:=h4;have e5:U.i (v0+5)=s.m:=h5;unfold VB;rw[e0,e1,e2,e3,e4,e5]
def aug(cc:Int)(a b:Sc):c_vgiv.F (.z cc::d_Sc a (d_Sc b []))=d_Sc (Ej cc a b) [.z (AE (DI cc a b))]:=rfl
def ai6(s:Sc):c_vsca.F (d_Sc s [])=d_Ty (DO s) []:=rfl
def avY(q:Int):c_vby.F [.z q]=d_Sc (Dc q) []:=rfl
def auf(q:Int):c_vone.F [.z q]=d_Sc (B8 q) []:=rfl
section
variable {k:Int}{x:Ins}{s b':Sta}{b:Ty}
def ajq(h:x.k=4\/x.k=6):gA k x s b=[]:=if_pos h
def zK(h4:x.k≠4)(h6:x.k≠6)(ht:(im x s b&&gv x.op)=ZC):gA k x s b=[(Ac .add .i64 k 1,s)]:=by unfold gA CX;rw[if_neg (fun h=>h.elim h4 h6),ht];rfl
def adU(h4:x.k≠4)(h6:x.k≠6)(ht:(im x s b&&gv x.op)=ZB):gA k x s b=CX s x.d (Ao s x.d) b ZB (Ac .add .i64 k 1) (il x.op) ZB:=by unfold gA;rw[if_neg (fun h=>h.elim h4 h6)];rw[ne]at ht;rw[ht.1,ht.2]
def ajp(h:(AN k x).2=ZC):gY k x s b=[]:=if_neg X3
def ajo(h:(AN k x).2=ZB)(ht:im x s b=ZC):gY k x s b=[((AN k x).1,s)]:=by unfold gY CX;rw[if_pos h,ht];rfl
def adR(h:(AN k x).2=ZB)(ht:im x s b=ZB):gY k x s b=CX s x.d (Ao s x.d) b ZB (AN k x).1 x.op ZB:=by unfold gY;rw[if_pos h,ht]
end
def aoO(h:aN z=ZB):ZG .i64 z=z:=by unfold aN at h;simp only[fk,cL]at h;rw[aP];omega
def iW(x:Ins):Bool:=!(x.k==4) &&!(x.k==6)
def uO(h:iW x=ZB):x.k≠4/\x.k≠6:=by unfold iW at h;simpa using h
def ajv(h:iW x=ZC):x.k=4\/x.k=6:=by
 unfold iW at h;by_cases h4:x.k=4
 .exact .inl h4
 .exact .inr (by simpa[h4]using h)
def aK{p:Prop}(k:q2)(h:p->q=q2:=by intro e;(try simp only[e,bF,-eq_self]);rfl):p->q:=fun e=>(h e).symm▸k
def xQ:List (Nat×TI):=[(2,CB),
 (3,CU),
 (38,fT),
 (39,eX),
 (46,gZ),
 (48,jl),
 (50,Qg),
 (52,zZ),
 (53,qR),
 (54,qQ),
 (56,uZ)]
def eU:∀t i,(t,i)∈xQ->TIok ZF t i:=bi B1 B1 (by kernel_rfl)
def c_tjjoin:Cd:=⟨46,[.agg kTy,.agg kTy,.one (.fn 47),.one .bool],[.agg kTy],rd_Ty fun a=>rd_Ty fun b=>rdB fun t _=>d_Ty (ee ZC t a b) [],T0⟩
def anF:Tr:=(.u (.cons (.w 0) (.zs [0,0,0,0,0,0] (.cons (.mn (.w 7) (.w 16)) (.cons (.mx (.w 8) (.w 17)) .nil)))))
def vU:Tr:=
(.br (.eq (.w 0) (.p 0))
(.u (.zs [0,0,0,0,0,0,0,0,0] .nil))
(.br (.eq (.w 9) (.p 0))
(.u (.zs [0,0,0,0,0,0,0,0,0] .nil))
(.br (.eq (.w 0) (.w 9))
(.br (.eq (.w 0) (.p 1))
(.call 1 (kSc) (.vs 1 6 (.vs 10 6 .nil)) 19
(.u (.cons (.w 0) (.vs 19 6 (.cons (.p 0) (.cons (.p 0) .nil))))))
(.br (.s 18)
(.br (.lt (.mn (.w 7) (.w 16)) (.w 7))
(.br (.lt (.w 8) (.mx (.w 8) (.w 17)))
(.u (.cons (.w 0) (.zs [0,0,0,0,0,0,-1048576,1048576] .nil)))
(.u (.cons (.w 0) (.zs [0,0,0,0,0,0,-1048576] (.cons (.mx (.w 8) (.w 17)) .nil)))))
(.br (.lt (.w 8) (.mx (.w 8) (.w 17)))
(.u (.cons (.w 0) (.zs [0,0,0,0,0,0] (.cons (.mn (.w 7) (.w 16)) (.cons (.p 1048576) .nil)))))
anF))
anF))
(.call 0 (kTy) .nil 19
(.u (.vs 19 9 .nil))))))
def akV:c_tjjoin.Ok ZF:=
 AT vU (v_Ty (v_Ty [.bool])) eU (Am ql<|Am aqe AI) Tryz.func46<|bG fun a ha=>bG fun b hb=>fun t hp U g=>by
 simp only[AD,AO,AB,ZD]at g;simp only[vU,anF,c_tscal,c_vjoin,c_tjjoin,AD,AO,Ai,ZH,ZD,-eq_self,bF,g];apply aI<;>intro c0
 .rw[Nh c0];try rfl
 apply aI<;>intro c1
 .rw[NT c1];try rfl
 apply aI<;>intro c2;apply aI<;>intro c3;refine aK ?_
 .rw[OM c0 c1 c2 c3];try rfl
 apply aI<;>intro c4;apply aI<;>intro c5;apply aI<;>intro c6
 .rw[FH c0 c1 c2 c3,VM c4 c5,Wd c4 c6];try rfl
 .rw[FH c0 c1 c2 c3,VM c4 c5,TQ c6];try rfl
 apply aI<;>intro c7
 .rw[FH c0 c1 c2 c3,Vc c5,Wd c4 c7];try rfl
 .rw[FH c0 c1 c2 c3,Vc c5,TQ c7];try rfl
 .rw[FH c0 c1 c2 c3,arF c4,arK c4];try rfl
 refine aK ?_
 .rw[WK c0 c1 c2];try rfl
def c_tcjoin:Cd:=⟨45,[.agg kTy,.agg kTy],[.agg kTy],rd_Ty fun a=>rd_Ty fun b _=>d_Ty (cK ZC a b) [],T0⟩
def vW:Tr:=
(.call 0 (kTy) (.vs 0 18 (.j (.tt ZC) .nil)) 18
(.u (.vs 18 9 .nil)))
def akY:c_tcjoin.Ok ZF:=
 AT vW (v_Ty (v_Ty [])) eU (Am akV AI) Tryz.func45<|bG fun a ha=>bG fun b hb hp U g=>by
 simp only[AD,AB,ZD]at g;simp only[vW,c_tjjoin,c_tcjoin,AD,Ai,ZH,ZD,-eq_self,bF,g];refine aK ?_
 .rfl
def c_tejoin:Cd:=⟨44,[.agg kSta,.agg kSta,.one (.fn 45)],[.agg kSta,.one (.int .i64)],rd_Sta fun a=>rd_Sta fun b _=>d_Sta (iJ ZC a b) [.z (Fa a b)],T0⟩
def pB:Tr:=
(.call 0 [.bool] (.vs 0 171 .nil) 342
(.br (.s 342)
(.call 0 [.bool] (.vs 171 171 .nil) 343
(.br (.s 343)
(.call 1 (kTy) (.vs 0 9 (.vs 171 9 .nil)) 344
(.call 1 (kTy) (.vs 9 9 (.vs 180 9 .nil)) 353
(.call 1 (kTy) (.vs 18 9 (.vs 189 9 .nil)) 362
(.call 1 (kTy) (.vs 27 9 (.vs 198 9 .nil)) 371
(.call 1 (kTy) (.vs 36 9 (.vs 207 9 .nil)) 380
(.call 1 (kTy) (.vs 45 9 (.vs 216 9 .nil)) 389
(.call 1 (kTy) (.vs 54 9 (.vs 225 9 .nil)) 398
(.call 1 (kTy) (.vs 63 9 (.vs 234 9 .nil)) 407
(.call 1 (kTy) (.vs 72 9 (.vs 243 9 .nil)) 416
(.call 1 (kTy) (.vs 81 9 (.vs 252 9 .nil)) 425
(.call 1 (kTy) (.vs 90 9 (.vs 261 9 .nil)) 434
(.call 1 (kTy) (.vs 99 9 (.vs 270 9 .nil)) 443
(.call 1 (kTy) (.vs 108 9 (.vs 279 9 .nil)) 452
(.call 1 (kTy) (.vs 117 9 (.vs 288 9 .nil)) 461
(.call 1 (kTy) (.vs 126 9 (.vs 297 9 .nil)) 470
(.call 1 (kTy) (.vs 135 9 (.vs 306 9 .nil)) 479
(.call 1 (kTy) (.vs 144 9 (.vs 315 9 .nil)) 488
(.call 1 (kTy) (.vs 153 9 (.vs 324 9 .nil)) 497
(.call 1 (kTy) (.vs 162 9 (.vs 333 9 .nil)) 506
(.u (.vs 344 171 (.cons (.p 0) .nil))))))))))))))))))))))
(.u (.zs [0,0,0,0,0,0,0,0,0,0,0,0,0,0,0,0,0,0,0,0,0,0,0,0,0,0,0,0,0,0,0,0,0,0,0,0,0,0,0,0,0,0,0,0,0,0,0,0,0,0,0,0,0,0,0,0,0,0,0,0,0,0,0,0,0,0,0,0,0,0,0,0,0,0,0,0,0,0,0,0,0,0,0,0,0,0,0,0,0,0,0,0,0,0,0,0,0,0,0,0,0,0,0,0,0,0,0,0,0,0,0,0,0,0,0,0,0,0,0,0,0,0,0,0,0,0,0,0,0,0,0,0,0,0,0,0,0,0,0,0,0,0,0,0,0,0,0,0,0,0,0,0,0,0,0,0,0,0,0,0,0,0,0,0,0,0,0,0,0,0,0,2] .nil))))
(.u (.zs [0,0,0,0,0,0,0,0,0,0,0,0,0,0,0,0,0,0,0,0,0,0,0,0,0,0,0,0,0,0,0,0,0,0,0,0,0,0,0,0,0,0,0,0,0,0,0,0,0,0,0,0,0,0,0,0,0,0,0,0,0,0,0,0,0,0,0,0,0,0,0,0,0,0,0,0,0,0,0,0,0,0,0,0,0,0,0,0,0,0,0,0,0,0,0,0,0,0,0,0,0,0,0,0,0,0,0,0,0,0,0,0,0,0,0,0,0,0,0,0,0,0,0,0,0,0,0,0,0,0,0,0,0,0,0,0,0,0,0,0,0,0,0,0,0,0,0,0,0,0,0,0,0,0,0,0,0,0,0,0,0,0,0,0,0,0,0,0,0,0,0,2] .nil))))
def agm:cb xQ (FJ 0 [c_tmay,c_tcjoin]) [] [] [] 200 Tryz.f44 c_tejoin.a c_tejoin.r (tp c_tejoin.r) (v_Sta (v_Sta [])) pB:=E0 (by kernel_rfl)
def akX:c_tejoin.Ok ZF:=
 GE pB (v_Sta (v_Sta [])) eU (Am V0<|Am akY AI) Tryz.func44 E2 agm<|dS fun a ha=>dS fun b hb hp U g=>by
 simp only[c_tejoin,bT,fq,rdZ,rdB,rdL];simp only[bX,AD,AB,ZD]at g;simp(maxSteps:=10000000) only[pB,Ki,c_tmay,c_tcjoin,rdZ,rdB,rdL,c_tejoin,bX,AD,Ai,ZH,ZD,-eq_self,bF,g];refine aK ?_;apply aI<;>intro c0;refine aK ?_;apply aI<;>intro c1;refine aK ?_;refine aK ?_;refine aK ?_;refine aK ?_;refine aK ?_;refine aK ?_;refine aK ?_;refine aK ?_;refine aK ?_;refine aK ?_;refine aK ?_;refine aK ?_;refine aK ?_;refine aK ?_;refine aK ?_;refine aK ?_;refine aK ?_;refine aK ?_;refine aK ?_
 .rw[(nW c0 c1).1,(nW (w:=ZB) c0 c1).2];rfl
 .rw[(vD (.inr c1)).1,(vD (w:=ZB) (.inr c1)).2];rfl
 .rw[(vD (.inl c0)).1,(vD (w:=ZB) (.inl c0)).2];rfl
def c_tsjoin:Cd:=⟨16,[.agg kSta,.agg kSta],[.agg kSta,.one (.int .i64)],rd_Sta fun a=>rd_Sta fun b _=>d_Sta (iJ ZC a b) [.z (Fa a b)],T0⟩
def vT:Tr:=
(.call 0 (kSta++[.int .i64]) (.vs 0 342 .nil) 342
(.u (.vs 342 172 .nil)))
def akU:c_tsjoin.Ok ZF:=
 AT vT (v_Sta (v_Sta [])) eU (Am akX AI) Tryz.func16<|dS fun a ha=>dS fun b hb hp U g=>by
 simp only[c_tsjoin,bT,fq,rdZ,rdB,rdL];simp only[bX,AD,AB,ZD]at g;simp(maxSteps:=10000000) only[vT,Ki,c_tejoin,rdZ,rdB,rdL,c_tsjoin,bX,AD,Ai,ZH,ZD,-eq_self,bF,g];refine aK ?_
 .rfl
def c_tjwid:Cd:=⟨46,[.agg kTy,.agg kTy,.one (.fn 49),.one .bool],[.agg kTy],rd_Ty fun a=>rd_Ty fun b=>rdB fun t _=>d_Ty (ee ZB t a b) [],T0⟩
def anE:Tr:=(.u (.cons (.w 0) (.zs [0,0,0,0,0,0] (.cons (.mn (.w 7) (.w 16)) (.cons (.mx (.w 8) (.w 17)) .nil)))))
def aaM:Tr:=
(.br (.eq (.w 0) (.p 0))
(.u (.zs [0,0,0,0,0,0,0,0,0] .nil))
(.br (.eq (.w 9) (.p 0))
(.u (.zs [0,0,0,0,0,0,0,0,0] .nil))
(.br (.eq (.w 0) (.w 9))
(.br (.eq (.w 0) (.p 1))
(.call 1 (kSc) (.vs 1 6 (.vs 10 6 .nil)) 19
(.u (.cons (.w 0) (.vs 19 6 (.cons (.p 0) (.cons (.p 0) .nil))))))
(.br (.s 18)
(.br (.lt (.mn (.w 7) (.w 16)) (.w 7))
(.br (.lt (.w 8) (.mx (.w 8) (.w 17)))
(.u (.cons (.w 0) (.zs [0,0,0,0,0,0,-1048576,1048576] .nil)))
(.u (.cons (.w 0) (.zs [0,0,0,0,0,0,-1048576] (.cons (.mx (.w 8) (.w 17)) .nil)))))
(.br (.lt (.w 8) (.mx (.w 8) (.w 17)))
(.u (.cons (.w 0) (.zs [0,0,0,0,0,0] (.cons (.mn (.w 7) (.w 16)) (.cons (.p 1048576) .nil)))))
anE))
anE))
(.call 0 (kTy) .nil 19
(.u (.vs 19 9 .nil))))))
def aqn:c_tjwid.Ok ZF:=
 AT aaM (v_Ty (v_Ty [.bool])) eU (Am ql<|Am asN AI) Tryz.func46<|bG fun a ha=>bG fun b hb=>fun t hp U g=>by
 simp only[AD,AO,AB,ZD]at g;simp only[aaM,anE,c_tscal,c_vwid,c_tjwid,AD,AO,Ai,ZH,ZD,-eq_self,bF,g];apply aI<;>intro c0
 .rw[Nh c0];try rfl
 apply aI<;>intro c1
 .rw[NT c1];try rfl
 apply aI<;>intro c2;apply aI<;>intro c3;refine aK ?_
 .rw[OM c0 c1 c2 c3];try rfl
 apply aI<;>intro c4;apply aI<;>intro c5;apply aI<;>intro c6
 .rw[FH c0 c1 c2 c3,VM c4 c5,Wd c4 c6];try rfl
 .rw[FH c0 c1 c2 c3,VM c4 c5,TQ c6];try rfl
 apply aI<;>intro c7
 .rw[FH c0 c1 c2 c3,Vc c5,Wd c4 c7];try rfl
 .rw[FH c0 c1 c2 c3,Vc c5,TQ c7];try rfl
 .rw[FH c0 c1 c2 c3,arF c4,arK c4];try rfl
 refine aK ?_
 .rw[WK c0 c1 c2];try rfl
def c_tcwid:Cd:=⟨48,[.agg kTy,.agg kTy],[.agg kTy],rd_Ty fun a=>rd_Ty fun b _=>d_Ty (cK ZB a b) [],T0⟩
def aaO:Tr:=
(.call 0 (kTy) (.vs 0 18 (.j (.tt ZB) .nil)) 18
(.u (.vs 18 9 .nil)))
def aqq:c_tcwid.Ok ZF:=
 AT aaO (v_Ty (v_Ty [])) eU (Am aqn AI) Tryz.func48<|bG fun a ha=>bG fun b hb hp U g=>by
 simp only[AD,AB,ZD]at g;simp only[aaO,c_tjwid,c_tcwid,AD,Ai,ZH,ZD,-eq_self,bF,g];refine aK ?_
 .rfl
def c_tewid:Cd:=⟨44,[.agg kSta,.agg kSta,.one (.fn 48)],[.agg kSta,.one (.int .i64)],rd_Sta fun a=>rd_Sta fun b _=>d_Sta (iJ ZB a b) [.z (Fa a b)],T0⟩
def tE:Tr:=
(.call 0 [.bool] (.vs 0 171 .nil) 342
(.br (.s 342)
(.call 0 [.bool] (.vs 171 171 .nil) 343
(.br (.s 343)
(.call 1 (kTy) (.vs 0 9 (.vs 171 9 .nil)) 344
(.call 1 (kTy) (.vs 9 9 (.vs 180 9 .nil)) 353
(.call 1 (kTy) (.vs 18 9 (.vs 189 9 .nil)) 362
(.call 1 (kTy) (.vs 27 9 (.vs 198 9 .nil)) 371
(.call 1 (kTy) (.vs 36 9 (.vs 207 9 .nil)) 380
(.call 1 (kTy) (.vs 45 9 (.vs 216 9 .nil)) 389
(.call 1 (kTy) (.vs 54 9 (.vs 225 9 .nil)) 398
(.call 1 (kTy) (.vs 63 9 (.vs 234 9 .nil)) 407
(.call 1 (kTy) (.vs 72 9 (.vs 243 9 .nil)) 416
(.call 1 (kTy) (.vs 81 9 (.vs 252 9 .nil)) 425
(.call 1 (kTy) (.vs 90 9 (.vs 261 9 .nil)) 434
(.call 1 (kTy) (.vs 99 9 (.vs 270 9 .nil)) 443
(.call 1 (kTy) (.vs 108 9 (.vs 279 9 .nil)) 452
(.call 1 (kTy) (.vs 117 9 (.vs 288 9 .nil)) 461
(.call 1 (kTy) (.vs 126 9 (.vs 297 9 .nil)) 470
(.call 1 (kTy) (.vs 135 9 (.vs 306 9 .nil)) 479
(.call 1 (kTy) (.vs 144 9 (.vs 315 9 .nil)) 488
(.call 1 (kTy) (.vs 153 9 (.vs 324 9 .nil)) 497
(.call 1 (kTy) (.vs 162 9 (.vs 333 9 .nil)) 506
(.u (.vs 344 171 (.cons (.p 0) .nil))))))))))))))))))))))
(.u (.zs [0,0,0,0,0,0,0,0,0,0,0,0,0,0,0,0,0,0,0,0,0,0,0,0,0,0,0,0,0,0,0,0,0,0,0,0,0,0,0,0,0,0,0,0,0,0,0,0,0,0,0,0,0,0,0,0,0,0,0,0,0,0,0,0,0,0,0,0,0,0,0,0,0,0,0,0,0,0,0,0,0,0,0,0,0,0,0,0,0,0,0,0,0,0,0,0,0,0,0,0,0,0,0,0,0,0,0,0,0,0,0,0,0,0,0,0,0,0,0,0,0,0,0,0,0,0,0,0,0,0,0,0,0,0,0,0,0,0,0,0,0,0,0,0,0,0,0,0,0,0,0,0,0,0,0,0,0,0,0,0,0,0,0,0,0,0,0,0,0,0,0,2] .nil))))
(.u (.zs [0,0,0,0,0,0,0,0,0,0,0,0,0,0,0,0,0,0,0,0,0,0,0,0,0,0,0,0,0,0,0,0,0,0,0,0,0,0,0,0,0,0,0,0,0,0,0,0,0,0,0,0,0,0,0,0,0,0,0,0,0,0,0,0,0,0,0,0,0,0,0,0,0,0,0,0,0,0,0,0,0,0,0,0,0,0,0,0,0,0,0,0,0,0,0,0,0,0,0,0,0,0,0,0,0,0,0,0,0,0,0,0,0,0,0,0,0,0,0,0,0,0,0,0,0,0,0,0,0,0,0,0,0,0,0,0,0,0,0,0,0,0,0,0,0,0,0,0,0,0,0,0,0,0,0,0,0,0,0,0,0,0,0,0,0,0,0,0,0,0,0,2] .nil))))
def aki:cb xQ (FJ 0 [c_tmay,c_tcwid]) [] [] [] 200 Tryz.f44 c_tewid.a c_tewid.r (tp c_tewid.r) (v_Sta (v_Sta [])) tE:=E0 (by kernel_rfl)
def aqp:c_tewid.Ok ZF:=
 GE tE (v_Sta (v_Sta [])) eU (Am V0<|Am aqq AI) Tryz.func44 E2 aki<|dS fun a ha=>dS fun b hb hp U g=>by
 simp only[c_tewid,bT,fq,rdZ,rdB,rdL];simp only[bX,AD,AB,ZD]at g;simp(maxSteps:=10000000) only[tE,Ki,c_tmay,c_tcwid,rdZ,rdB,rdL,c_tewid,bX,AD,Ai,ZH,ZD,-eq_self,bF,g];refine aK ?_;apply aI<;>intro c0;refine aK ?_;apply aI<;>intro c1;refine aK ?_;refine aK ?_;refine aK ?_;refine aK ?_;refine aK ?_;refine aK ?_;refine aK ?_;refine aK ?_;refine aK ?_;refine aK ?_;refine aK ?_;refine aK ?_;refine aK ?_;refine aK ?_;refine aK ?_;refine aK ?_;refine aK ?_;refine aK ?_;refine aK ?_
 .rw[(nW c0 c1).1,(nW (w:=ZB) c0 c1).2];rfl
 .rw[(vD (.inr c1)).1,(vD (w:=ZB) (.inr c1)).2];rfl
 .rw[(vD (.inl c0)).1,(vD (w:=ZB) (.inl c0)).2];rfl
def c_tswid:Cd:=⟨17,[.agg kSta,.agg kSta],[.agg kSta,.one (.int .i64)],rd_Sta fun a=>rd_Sta fun b _=>d_Sta (iJ ZB a b) [.z (Fa a b)],T0⟩
def aaJ:Tr:=
(.call 0 (kSta++[.int .i64]) (.vs 0 342 .nil) 342
(.u (.vs 342 172 .nil)))
def aql:c_tswid.Ok ZF:=
 AT aaJ (v_Sta (v_Sta [])) eU (Am aqp AI) Tryz.func17<|dS fun a ha=>dS fun b hb hp U g=>by
 simp only[c_tswid,bT,fq,rdZ,rdB,rdL];simp only[bX,AD,AB,ZD]at g;simp(maxSteps:=10000000) only[aaJ,Ki,c_tewid,rdZ,rdB,rdL,c_tswid,bX,AD,Ai,ZH,ZD,-eq_self,bF,g];refine aK ?_
 .rfl
end Go.Proofs.YtgolejfhoefeaaaGreatDoor
