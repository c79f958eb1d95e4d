import Derived.Test.YtgolejfhoefeaaaGreatDoorAfZ
import Derived.Test.YtgolejfhoefeaaaGreatDoorAeZ
import Derived.Test.YtgolejfhoefeaaaGreatDoorProg
import Derived.Laws.Externs
set_option maxRecDepth 100000
set_option maxHeartbeats 8000000
set_option linter.defProp false
set_option linter.unusedSimpArgs false
set_option linter.unusedVariables false
namespace Go.Proofs.YtgolejfhoefeaaaGreatDoor
open Bool renaming true->ZB,false->ZC
open Nat renaming reduceAdd->ZD,reduceSub->ZH
open Go.Proofs.Tryz renaming prog->ZF
open Go.IntKind renaming wrap->ZG
open List renaming append_nil->ZP,length_cons->YQ,mem_append_right->ZV,length_take->YZ,mem_append_left->ZZ
open Int renaming ofNat_lt->YY
open Go.Proofs.Tryz
open Go Go.RowKit
variable {p:Prog}{x:Ins}{s S:Sta}{k n v0 m key:Nat}{left v a b d fu z c e:Int}{U:Env}{cx an T A L:LL}{q q2:Prop}{t:Ty}{w:Bool}{fr:List Int}{ks:List CK}{args:E}
def orZ(h0:0<=d)(h1:d<=10):Ac .or .i64 (AN d) 0=AN d/\Ac .or .i64 0 (AN d)=AN d:=by obtain⟨n,rfl⟩:=cj h0;have e:(2:Nat) ^ n<2048:=Nat.pow_lt_pow_right ST (by omega:n<11);rw[qS n Fn];exact⟨by rw[show(0:Int)=((0:Nat):Int)from rfl,M7 e ST,Nat.or_zero],by rw[show(0:Int)=((0:Nat):Int)from rfl,M7 ST e,Nat.zero_or]⟩
def amP(hx:A2 x=ZB):bg x=Dy x:=by obtain⟨d0,d1,s0,s1,_,_,k0,k6⟩:=cz hx;unfold bg Dy;rw[ae hx];have hk:x.k=0\/x.k=1\/x.k=2\/x.k=3\/x.k=4\/x.k=5\/x.k=6:=Fn;rcases hk with h|h|h|h|h|h|h<;>by_cases HH:x.op=11<;>cases hb:x.br<;>simp[h,HH,hb,(orZ d0 d1).1,(orZ s0 s1).2]
def akI{m:Ms}(hx:A2 x=ZB)(W:WM p m)(H:SH s m)(hu:fC s (Dy x).toNat=ZC):Ac .andNot .i64 (bg x) m.st=0:=by obtain⟨R,hR,hR2⟩:=al6 hx;obtain⟨n,hn,As⟩:=W.st;rw[amP hx,hR,hn];rw[hR,cY]at hu;refine aro hR2 fun j hj hb=> ?_;have q:=(H.reg (j:=(j:Int)) Fn Fn).1;have h0:=xX hu (d:=(j:Int)) Fn Fn (by rw[cY];exact hb);rw[hn,vS n As j hj]at q;exact q.resolve_left h0
def apF(hx:A2 x=ZB)(hk:x.k=0\/x.k=3)(hu:fC s (Dy x).toNat=ZC):((x.k=3\/x.op≠11)->(Ao s x.d).k≠0)/\(x.br=ZB->(Ao s x.s).k≠0):=by
 obtain⟨d0,d1,s0,s1,_⟩:=cz hx;obtain⟨d,hd⟩:=cj d0;obtain⟨e,he⟩:=cj s0;have pd:(2:Nat) ^ d<2048:=Nat.pow_lt_pow_right ST (by omega:d<11);have pe:(2:Nat) ^ e<2048:=Nat.pow_lt_pow_right ST (by omega:e<11);rw[<-amP hx]at hu;have hw:bg x=(((if x.k=3\/x.op≠11 then 2 ^ d else 0) ||| (if x.br=ZB then 2 ^ e else 0):Nat):Int):=by
  unfold bg;rw[ae hk,hd,he,qS d Fn,qS e Fn];cases x.br with
  |true=>
    rw[ae rfl,ae rfl];by_cases c:x.k=3\/x.op≠11
    .rw[ae c,ae c,M7 pd pe]
    .rw[aa c,aa c,show(0:Int)=((0:Nat):Int)from rfl,M7 ST pe]
  |false=>
    simp only[Bool.false_eq_true,eA,Nat.or_zero];by_cases c:x.k=3\/x.op≠11
    .rw[ae c,ae c]
    .rw[aa c,aa c];rfl
 rw[hw,cY]at hu;refine⟨fun c=>xX hu d0 d1 ?_,fun c=>xX hu s0 s1 ?_⟩
 .rw[hd,cY,Nat.testBit_or,ae c,Nat.testBit_two_pow];simp
 .rw[he,cY,Nat.testBit_or,ae c,Nat.testBit_two_pow];simp
def yx{m:Ms}(hx:A2 x=ZB)(W:WM p m)(H:SH s m):aU (cy x s) (m.sec x)=ZB/\0<=m.sec x/\m.sec x<=18446744073709551615:=by
 obtain⟨d0,d1,s0,s1,_⟩:=cz hx;unfold Ms.sec;cases hb:x.br with
 |true=>rw[ae rfl];exact⟨ars hb (H.reg s0 s1).2,W.r _⟩
 |false=>rw[aa (by simp)];exact⟨art hb,by rw[aW];omega⟩
def aul{m:Ms}(hx:A2 x=ZB)(hk:x.k=0)(W:WM p m)(G:GA s)(H:SH s m)(hu:fC s (Dy x).toNat=ZC):aU (Dv x (Ao s x.d) (cy x s)) (PU x.op x.w (m.r x.d) (m.sec x))=ZB:=by
 obtain⟨d0,d1,s0,s1,_⟩:=cz hx;obtain⟨r1,r2⟩:=apF hx (.inl hk) hu;obtain⟨q1,q2⟩:=yx hx W H;have ho:=abX hx hk;unfold PU;rw[ae ho];refine aed (H.reg d0 d1).2 q1 (G.nth d0 d1).wf (G.b2 s0 s1).wf ho (fun c=>r1 (.inr c)) (fun _=> ?_) (W.r _) q2;unfold cy;split
 next hb=>exact r2 hb
 .show(1:Int)≠0;omega
def Ms.set_st{m:Ms}(W:WM p m)(d0:0<=d)(d1:d<=10)(v:Int):∃n:Nat,(m.set d v).st=(n:Int)/\n<2048:=by obtain⟨n,hn,As⟩:=W.st;obtain⟨e,rfl⟩:=cj d0;have pe:(2:Nat) ^ e<2048:=Nat.pow_lt_pow_right ST (by omega:e<11);refine⟨n ||| 2 ^ e,?_,Nat.or_lt_two_pow (n:=11) As pe⟩;show Ac .or .i64 m.st (AN (e:Int))=_;rw[hn,qS e Fn,M7 As pe]
def WM.set{m:Ms}(W:WM p m)(d0:0<=d)(d1:d<=10)(hv:0<=v/\v<=18446744073709551615):WM p (m.set d v):=⟨by show(m.rg.set _ _).length=11;rw[List.length_set];exact W.rl,fun w hw=>(List.mem_or_eq_of_mem_set hw).elim (W.rv w) (fun e=>e▸hv),Ms.set_st W d0 d1 v,W.an,W.cx,W.cl,W.fm,W.fl⟩
def SH.sets{m:Ms}(W:WM p m)(H:SH s m)(d0:0<=d)(d1:d<=10)(ht:aU t v=ZB)(G:GA (BX s d t)):SH (BX s d t) (m.set d v):=by obtain⟨n,hn,As⟩:=W.st;exact H.set hn As W.rl d0 d1 ht G.may
def SH.pc{m:Ms}(H:SH s m)(n:Int):SH s {m with pc:=n}:=H
def ard{m:Ms}(W:WM p m)(G:GA s)(H:SH s m)(ha:m.an.length≠0):SH (Qx s) (m.call x)/\WM p (m.call x):=by
 obtain⟨n,hn,As⟩:=W.st;obtain⟨_,h2,h3⟩:=(ia s m).1 H;have a0:0<=gt m.an 0 0/\gt m.an 0 0<=18446744073709551615:=xj (aqX (fun r hr=>qa (W.an.row r hr) (c:=0) (k:=some .u64) rfl) 0);obtain⟨c1,c2,c3⟩:=at9 n As;have EE:(m.call x).st=(((Ip (n:Int)).toNat:Nat):Int):=by show Ip m.st=_;rw[hn,Int.toNat_of_nonneg c1]
 refine⟨(ia _ _).2 ⟨G.call.may,fun j hj=> ?_,fun k hk=> ?_⟩,?_⟩
 .have q:=h2 j hj;rw[hn]at q;unfold rok at q ⊢;rw[vS _ As _ Fn]at q;rw[EE,vS _ c2 _ Fn,c3 j Fn];by_cases j6:5<j
  .have e1:(m.call x).r (j:Int)=m.r (j:Int):=by
    show([gt m.an 0 0,0,0,0,0,0]++m.rg.drop 6).getD j 0=m.rg.getD j 0;rw[bZ,Bo XD,List.getElem?_drop,<-bZ];congr 1;simp;omega
   have e2:Ao (Qx s) (j:Int)=Ao s (j:Int):=by have:j=6\/j=7\/j=8\/j=9\/j=10:=Fn;rcases this with rfl|rfl|rfl|rfl|rfl<;>rfl
   rw[e1,e2,dm j6,ff (by omega:¬j=0),Bool.true_and,Bool.false_or];exact q
  .have:j=0\/j=1\/j=2\/j=3\/j=4\/j=5:=by omega
   rcases this with rfl|rfl|rfl|rfl|rfl|rfl
   .show((tscal.k==0||_)&&aU tscal (gt m.an 0 0))=ZB;rw[iA a0.1 a0.2];simp
   all_goals
    show((tnil.k==0||_)&&aU tnil 0)=ZB;rw[yf (by rfl) (by rfl)];rfl
 .show aU (nu s k) (be (dC (m.call x)) k)=ZB;rw[aaq (m':=m.call x) (m:=m) rfl];exact h3 k hk
 .refine⟨?_,fun v hv=> ?_,⟨_,EE,c2⟩,mr W.an _,W.cx,W.cl,W.fm,W.fl⟩
  .show([gt m.an 0 0,0,0,0,0,0]++m.rg.drop 6).length=11;rw[eo,List.length_drop,W.rl];rfl
  .rcases List.mem_append.1 hv with hv|hv
   .simp at hv;rcases hv with rfl|rfl
    .exact a0
    .exact⟨Int.le_refl _,by decide⟩
   .exact W.rv v (List.mem_of_mem_drop hv)
def arX(h:aR z=ZB):ZG .i64 z=z:=by have:=bR h;exact GE Fn Fn
def anu{off size:Int}(hv:0<=v/\v<=18446744073709551615)(hc:0<=c/\c<=256)(ht:aU t v=ZB)(hw:aG c t off size=ZB):
  (t.k=2\/t.k=3)/\aR size=ZB/\∃o:Int,FX v off=bV t+o/\0<=o/\o+size<=(if t.k=2 then c else 64)/\Ac .add .i64 t.lo off<=o/\o<=Ac .add .i64 t.hi off/\Ac .add .i64 t.lo off=t.lo+off/\Ac .add .i64 t.hi off=t.hi+off:=by
 unfold aG BK at hw;simp only[ne,aE]at hw;obtain⟨h1,h2,⟨⟨h3,h4⟩,⟨h5,h6⟩,h7,h8⟩,h9,JH,HH⟩:=hw;have hk:=oJ.1 h1;obtain⟨_,t1,t2⟩:=(ye hk).1 ht;refine⟨hk,h2,D9 t v+off,?_,by omega,?_,?_,?_,GE Fn Fn,GE Fn Fn⟩
 .have hb:bV t=2097152\/bV t=3145728:=by
   unfold bV;split
   .exact .inl rfl
   .exact .inr rfl
  rw[tx]at t1 t2 ⊢;show IntKind.u64.wrap (v+ZG .u64 off)=_;rw[aW,aW];split at HH<;>omega
 .exact Fn
 .rw[show Ac .add .i64 t.lo off=t.lo+off from GE Fn Fn];omega
 .rw[show Ac .add .i64 t.hi off=t.hi+off from GE Fn Fn];omega
def amO{m:Ms}(hf:m.fm.length=64):∀(n i:Nat),i+n<=64->CM ((m.fm.drop i).take n)=Bq (dC m) (i:Int) n
 |0,i,_=>rfl
 |n+1,i,h=>by have hi:i<m.fm.length:=Fn;rw[List.drop_eq_getElem_cons hi,List.take_succ_cons];show m.fm[i].getD 0 0+256*CM ((m.fm.drop (i+1)).take n)=dt (dC m) i+256*Bq (dC m) ((i:Int)+1) n;rw[amO hf n (i+1) Fn,nj m Fn Fn];unfold gt;rw[cY,bZ (l:=m.fm),AH hi];rfl
def sS{m:Ms}(W:WM p m)(i:Int):0<=dt (dC m) i/\dt (dC m) i<=255:=by
 by_cases h:0<=i/\i<=63
 .rw[nj m h.1 h.2];exact aiU W.fm i
 .have e:dt (dC m) i=0:=by
   unfold dt
   repeat rw[aa Fn]
  rw[e];exact⟨Int.le_refl _,by decide⟩
def Ms.fit{m:Ms}(W:WM p m)(hc:0<=p.ctx/\p.ctx<=256):m.mem.Lim:=(atQ (c:=m.cx) (f:=m.fm) (by have:=W.cl;omega) W.fl).lim
def set_set{m:Ms}(W:WM p m)(d0:0<=d)(d1:d<=10)(v:Int):(m.set d v).set d v=m.set d v:=by
 obtain⟨n,hn,As⟩:=W.st;obtain⟨e,rfl⟩:=cj d0;have pe:(2:Nat) ^ e<2048:=Nat.pow_lt_pow_right ST (by omega:e<11);have h1:(m.set (e:Int) v).st=((n ||| 2 ^ e:Nat):Int):=by show Ac .or .i64 m.st (AN (e:Int))=_;rw[hn,qS e Fn,M7 As pe]
 have h2:((m.set (e:Int) v).set (e:Int) v).st=(m.set (e:Int) v).st:=by show Ac .or .i64 (m.set (e:Int) v).st (AN (e:Int))=_;rw[h1,qS e Fn,M7 (Nat.or_lt_two_pow (n:=11) As pe) pe,Nat.or_assoc,Nat.or_self]
 have h3:((m.set (e:Int) v).set (e:Int) v).rg=(m.set (e:Int) v).rg:=List.set_set ..;show(⟨((m.set (e:Int) v).set (e:Int) v).rg,((m.set (e:Int) v).set (e:Int) v).st,m.pc,m.an,m.tr,m.cx,m.fm⟩:Ms)=⟨(m.set (e:Int) v).rg,(m.set (e:Int) v).st,m.pc,m.an,m.tr,m.cx,m.fm⟩;rw[h2,h3]
def aqb{m:Ms}(hx:A2 x=ZB)(hk:x.k=1)(hc:0<=p.ctx/\p.ctx<=256)(W:WM p m)(G:GA s)(H:SH s m)(he:(BD p x s).2=0):
  H3 m.mem (FX (m.r x.s) x.off) (ZG .i64 x.sz)=0/\SH (BD p x s).1 (m.set x.d (FQ m.mem (FX (m.r x.s) x.off) (ZG .i64 x.sz)))/\WM p (m.set x.d (FQ m.mem (FX (m.r x.s) x.off) (ZG .i64 x.sz))):=by
 obtain⟨d0,d1,s0,s1,_⟩:=cz hx;have GM:=G.mid (p:=p) d0 d1 s0 s1 he;unfold BD at he GM ⊢;rw[aa Fn,ae hk]at he GM ⊢;by_cases hw:aG p.ctx (Ao s x.s) x.off x.sz=ZB
 rotate_left
 .rw[aa hw]at he;cases he
 rw[ae hw]at he GM ⊢;obtain⟨kt,hs,o,ha,o0,o1,lo,hi,UO,UN⟩:=anu (W.r _) hc (H.reg s0 s1).2 hw;have hz:=arX hs;have hn:=bR hs;rw[hz,ha];have lim:=Ms.fit W hc;obtain⟨n,P2⟩:=cj (show 0<=x.sz by omega);obtain⟨oN,hoN⟩:=cj o0;have row:∃l:LL,m.mem.Row (bV (Ao s x.s)) l/\inr (bV (Ao s x.s)) l (bV (Ao s x.s)+o) x.sz=ZB/\RowsIn [some .u8] l/\((Ao s x.s).k=3->l=m.fm):=by
  rcases kt with kt|kt
  .refine⟨m.cx,?_,?_,W.cx,fun h=>by omega⟩
   .unfold bV;rw[ae kt];exact .inr (.inl ⟨rfl,rfl⟩)
   .rw[ae kt]at o1;exact km.2 ⟨by omega,by have:=W.cl;omega⟩
  .refine⟨m.fm,?_,?_,W.fm,fun _=>rfl⟩
   .unfold bV;rw[aa Fn];exact .inr (.inr (.inl ⟨rfl,rfl⟩))
   .rw[aa Fn]at o1;exact km.2 ⟨by omega,by have:=W.fl;omega⟩
 obtain⟨l,hr,Bg,hu8,hfm⟩:=row;obtain⟨r0,r1⟩:=asf lim hr Bg hs;have AZ:(BS (bV (Ao s x.s)) l (bV (Ao s x.s)+o) x.sz).length=n:=by have:=(km.1 Bg).2;unfold BS;rw[YZ,List.length_drop];omega
 have hv:0<=CM (BS (bV (Ao s x.s)) l (bV (Ao s x.s)+o) x.sz)/\CM (BS (bV (Ao s x.s)) l (bV (Ao s x.s)+o) x.sz)<256 ^ (BS (bV (Ao s x.s)) l (bV (Ao s x.s)+o) x.sz).length:=yV (wC (mr hu8 _) _);rw[AZ]at hv;have IG:aU (DQ (Db x.sz)) (FQ m.mem (bV (Ao s x.s)+o) x.sz)=ZB:=by rw[r1];exact iM (tj hn hv.1 (by rw[show x.sz.toNat=n by omega];exact hv.2))
 have P9:0<=FQ m.mem (bV (Ao s x.s)+o) x.sz/\FQ m.mem (bV (Ao s x.s)+o) x.sz<=18446744073709551615:=by
  rw[r1];refine⟨hv.1,?_⟩;have:(256:Int) ^ n<=256 ^ 8:=by
   have h8:n<=8:=Fn;have:=Nat.pow_le_pow_right (show 0<256 by decide) h8
   exact_mod_cast this
  have h9:(256:Int) ^ 8=18446744073709551616:=ST;omega
 refine⟨r0,?_,W.set d0 d1 P9⟩;have G1:GA (BX s x.d (DQ (Db x.sz))):=G.reg (sk _) _;have H1:=H.sets W d0 d1 IG G1;unfold Sx at he GM ⊢;by_cases k3:(Ao s x.s).k=3
 .rw[ae k3]at he GM ⊢;have hf:=hfm k3;have hsm:BL (BX s x.d (DQ (Db x.sz))) (Il (Ao s x.s) x) (Ik (Ao s x.s) x) x.sz=ZB:=by
   cases e:BL (BX s x.d (DQ (Db x.sz))) (Il (Ao s x.s) x) (Ik (Ao s x.s) x) x.sz with
   |true=>rfl
   |false=>have Ic:pF (BX s x.d (DQ (Db x.sz))) (Il (Ao s x.s) x) (Ik (Ao s x.s) x) x.sz=0:=he;unfold pF at Ic;rw[e,aa (by simp)]at Ic;cases Ic
  have IH:FQ m.mem (bV (Ao s x.s)+o) x.sz=Bq (dC (m.set x.d (FQ m.mem (bV (Ao s x.s)+o) x.sz))) o x.sz.toNat:=by
   have e1:Bq (dC (m.set x.d (FQ m.mem (bV (Ao s x.s)+o) x.sz))) o x.sz.toNat=Bq (dC m) o x.sz.toNat:=kD _ _ fun j h0 h1=>by rw[aa Fn]at o1;rw[nj _ Fn Fn,nj _ Fn Fn];rfl
   rw[e1,r1,hf];unfold BS;rw[hoN,P2,cY,<-amO W.fl n oN (by rw[aa Fn]at o1;omega)];congr 2;congr 1;omega
  have q:=afr hsm H1 (fun i=>sS (W.set d0 d1 P9) i) lo hi;rw[<-IH]at q;have H2:=H1.sets (W.set d0 d1 P9) d0 d1 q GM;rw[set_set W d0 d1]at H2;exact H2
 .rw[aa k3];exact H1
def aub(h0:0<=v)(h1:v<=18446744073709551615)(k:Nat)(hk:k<=7):UH v k=ba v (k:Int):=by
 have:k=0\/k=1\/k=2\/k=3\/k=4\/k=5\/k=6\/k=7:=Fn;have H:∀(s:Nat),s<=56->ZG .u8 (Ac .shr .u64 v (s:Int))=v / 2 ^ s % 256:=by
  intro s hs;have e:Ac .shr .u64 v (s:Int)=v / 2 ^ s:=by show v.fdiv (2 ^ min (s:Int).toNat IntKind.u64.bits)=_;rw[show min (s:Int).toNat IntKind.u64.bits=s by simp[IntKind.bits];omega];exact Int.fdiv_eq_ediv_of_nonneg _ (by exact Int.le_of_lt (Int.pow_pos ST))
  rw[e,w_u8]
 rcases this with rfl|rfl|rfl|rfl|rfl|rfl|rfl|rfl
 .exact H 0 ST
 .exact H 8 ST
 .exact H 16 ST
 .exact H 24 ST
 .exact H 32 ST
 .exact H 40 ST
 .exact H 48 ST
 .exact H 56 ST
def aeS(y:Snap)(hk:k<=7):be y k=Bq y (8*(k:Int)) 8:=by
 have:k=0\/k=1\/k=2\/k=3\/k=4\/k=5\/k=6\/k=7:=Fn;rcases this with rfl|rfl|rfl|rfl|rfl|rfl|rfl|rfl
 .exact(pq y).symm
 .exact(pp y).symm
 .exact(po y).symm
 .exact(pn y).symm
 .exact(pm y).symm
 .exact(pk y).symm
 .exact(pj y).symm
 .exact(pi y).symm
def SH.put{m:Ms}(W:WM p m){o:Nat}(hn:o+n<=64)(n8:n<=8)(hv:0<=v/\v<=18446744073709551615)(h:Ar s (Dd (dC m) (o:Int) v (n:Int))=ZB):SH s {m with fm:=putL m.fm o v n}:=by
 obtain⟨h1,h2,h3⟩:=(aaD _ _).1 h;refine(ia _ _).2 ⟨h1,fun j hj=> ?_,fun k hk=> ?_⟩
 .have q:=h2 j hj;rw[show xr (Dd (dC m) (o:Int) v (n:Int)) j=xr (dC m) j from rfl,Pt m hj]at q;exact q
 .have q:=h3 k hk;rw[aeS _ hk]at q ⊢;rw[kD (x:=dC {m with fm:=putL m.fm o v n}) (y:=Dd (dC m) (o:Int) v (n:Int)) 8 _ fun j j0 j1=> ?_]
  .exact q
  .obtain⟨i,rfl⟩:=cj (show 0<=j by omega);rw[nj _ Fn Fn,lZ _ _ _ _ _ Fn Fn,nj _ Fn Fn];show gt (putL m.fm o v n) (i:Int) 0=_;rw[aij W.fm o v i n (by rw[W.fl];omega)];by_cases c:o<=i/\i<o+n
   .rw[ae c,ae Fn,aub hv.1 hv.2 _ Fn];congr 1;omega
   .rw[aa c,aa Fn]
def ajZ{m:Ms}(hx:A2 x=ZB)(hk:x.k=2)(hc:0<=p.ctx/\p.ctx<=256)(W:WM p m)(G:GA s)(H:SH s m)(he:(BD p x s).2=0):
  EY m (FX (m.r x.d) x.off) (ZG .i64 x.sz)=ZB/\SH (BD p x s).1 (ee m x)/\WM p (ee m x):=by
 obtain⟨d0,d1,s0,s1,_⟩:=cz hx;unfold BD at he ⊢;rw[aa Fn,aa Fn,ae hk]at he ⊢;by_cases hw:aG p.ctx (Ao s x.d) x.off x.sz=ZB
 rotate_left
 .rw[aa hw]at he;cases he
 rw[ae hw]at he ⊢;obtain⟨kt,hs,o,ha,o0,o1,lo,hi,UO,UN⟩:=anu (W.r _) hc (H.reg d0 d1).2 hw;have hz:=arX hs;have hn:=bR hs;obtain⟨n,P2⟩:=cj (show 0<=x.sz by omega);obtain⟨oN,hoN⟩:=cj o0;have hb:ee m x={m with cx:=LD m (bV (Ao s x.d)+o) x.sz (m.r x.s),fm:=Jt m (bV (Ao s x.d)+o) x.sz (m.r x.s)}:=by unfold ee;rw[aa Fn,aa Fn,ae hk,hz,ha]
 rw[hb,hz,ha];have PW:RowsIn [some .u8] (LD m (bV (Ao s x.d)+o) x.sz (m.r x.s)):=by
  unfold LD;split
  .exact mG W.cx _ _ _
  .exact W.cx
 have hfx:RowsIn [some .u8] (Jt m (bV (Ao s x.d)+o) x.sz (m.r x.s)):=by
  unfold Jt;split
  .exact mG W.fm _ _ _
  .exact W.fm
 refine⟨?_,?_,⟨W.rl,W.rv,W.st,W.an,PW,by rw[show({m with cx:=LD m (bV (Ao s x.d)+o) x.sz (m.r x.s),fm:=Jt m (bV (Ao s x.d)+o) x.sz (m.r x.s)}:Ms).cx.length=m.cx.length from ae2 _ _ _ _];exact W.cl,hfx,(ae1 _ _ _ _).trans W.fl⟩⟩
 .unfold EY;rw[fy];unfold bV;rcases kt with kt|kt
  .rw[ae kt]at o1 ⊢;exact .inl (km.2 ⟨by omega,by have:=W.cl;omega⟩)
  .rw[aa Fn]at o1 ⊢;exact .inr (km.2 ⟨by omega,by have:=W.fl;omega⟩)
 .unfold SA at he ⊢;by_cases k3:(Ao s x.d).k=3
  .rw[ae k3]at he ⊢;rw[aa Fn]at o1;have hq:BL s (Il (Ao s x.d) x) (Ik (Ao s x.d) x) x.sz=ZB/\tset (Ao s x.s)=ZB:=by
    have Ic:nv s (Il (Ao s x.d) x) (Ik (Ao s x.d) x) x.sz (Ao s x.s)=0:=he;unfold nv at Ic;by_cases c:BL s (Il (Ao s x.d) x) (Ik (Ao s x.d) x) x.sz=ZB/\tset (Ao s x.s)=ZB
    .exact c
    .rw[aa c]at Ic;cases Ic
   have q:=acH hq.1 hq.2 H (fun i=>sS W i) lo hi (H.reg s0 s1).2 (W.r _).1 (W.r _).2;have e1:Jt m (bV (Ao s x.d)+o) x.sz (m.r x.s)=putL m.fm oN (m.r x.s) n:=by
    have RN:bV (Ao s x.d)=3145728:=by unfold bV;rw[aa Fn]
    unfold Jt;rw[RN,ae (km.2 ⟨by omega,by have:=W.fl;omega⟩)];congr 1<;>omega
   rw[e1];rw[hoN,P2]at q;rw[P2];exact SH.put W Fn Fn (W.r _) q
  .rw[aa k3];have k2:(Ao s x.d).k=2:=kt.resolve_right k3;rw[ae k2]at o1;have e1:Jt m (bV (Ao s x.d)+o) x.sz (m.r x.s)=m.fm:=by
    have RN:bV (Ao s x.d)=2097152:=by unfold bV;rw[ae k2]
    unfold Jt;rw[RN,gv (by have:=W.fl;omega)];rfl
   rw[e1];exact H
def rx{cc w:Int}(h:gD cc=ZB):lW (iu cc) w a b=(!lW cc w a b)/\DW (iu cc) 64=ZB:=by
 unfold gD at h;rw[ne,aE,aE]at h;have hc:cc=0\/cc=1\/cc=2\/cc=3\/cc=4\/cc=5\/cc=6\/cc=7\/cc=8\/cc=9:=Fn;rcases hc with rfl|rfl|rfl|rfl|rfl|rfl|rfl|rfl|rfl|rfl
 all_goals
  refine⟨?_,by decide⟩;simp[lW,iu,bne]
  try (rw[ao];simp)
 all_goals first|done|omega
def SH.fine{m:Ms}(H:SH s m)(d0:0<=d)(hb:A6 m.st d=ZB)(ht:aU t (m.r d)=ZB)(hm:Az (BX s d t)=ZB):SH (BX s d t) m:=by
 obtain⟨_,h2,h3⟩:=(ia s m).1 H;refine(ia _ _).2 ⟨hm,fun j hj=> ?_,fun k hk=>h3 k hk⟩;rw[aah s _ t hj];by_cases c:d=(j:Int)
 .subst c;rw[beq_self_eq_true,amc];unfold rok;rw[hb,ht];simp
 .rw[jJ.2 c,amd];exact h2 j hj
def aqP(h:A2 x=ZB)(hk:x.k=3):DW x.op 64=ZB:=by unfold A2 at h;rw[ne,ne]at h;have q:=h.2.1;unfold cA at q;rw[aa Fn,aa Fn,aa Fn,ae hk]at q;have q:(decide (0<=x.op)&&decide (x.op<=10))=ZB:=q;unfold DW;rw[q];rfl
def ahZ{i:Int}(hx:A2 x=ZB)(hk:x.k=3\/x.k=4)(h0:0<=i)(h1:i<1099511627776):(AO i x).2=ZB:=by have hd:=cz hx;rw[se hk (by rw[ne,aE,aE];omega) (by rw[ne,aE,aE];omega)]
def al5{m:Ms}(hx:A2 x=ZB)(hk:x.k=3)(W:WM p m)(G:GA s)(H:SH s m)(hu:fC s (Dy x).toNat=ZC){cc go:Int}{kn:Bool}(Cu:kn=ZB->DW cc 64=ZB/\lW cc 64 (m.r x.d) (m.sec x)=ZB):
  ∃q∈C0 s x.d (Ao s x.d) (cy x s) (iw x s (cy x s)) go cc kn,q.1=go/\SH q.2 m:=by
 obtain⟨d0,d1,s0,s1,_⟩:=cz hx;unfold C0;by_cases ht:(iw x s (cy x s)&&kn)=ZB
 .rw[ae ht];rw[ne]at ht;obtain⟨ht,hkn⟩:=ht;unfold iw at ht;rw[ne,ne,cQ,cQ]at ht;obtain⟨_,ka,kb⟩:=ht;obtain⟨q1,q2⟩:=yx hx W H;obtain⟨r1,r2⟩:=H.reg d0 d1;obtain⟨g1,g2⟩:=ajF (G.nth d0 d1).wf (G.b2 s0 s1).wf (W.r _) q2 (kG r2 ka) (kG q1 (Bs kb)) (Cu hkn).1 (Cu hkn).2;rw[ae g1];exact⟨_,dA.2 rfl,rfl,H.fine d0 (r1.resolve_left Fn) (iM g2) ((G.reg (ane (G.nth d0 d1).wf (G.b2 s0 s1).wf) _).may)⟩
 .rw[aa ht];exact⟨_,dA.2 rfl,rfl,H⟩
def aqM{m:Ms}(hx:A2 x=ZB)(hk:x.k=3)(W:WM p m)(G:GA s)(H:SH s m)(hu:fC s (Dy x).toNat=ZC)(h0:0<=m.pc)(h1:m.pc<1099511627776):
  ∃q∈gF m.pc x s (cy x s)++ib m.pc x s (cy x s),q.1=Hv m x/\SH q.2 m:=by
 have hc:=aqP hx hk;unfold Hv;cases hh:lW x.op 64 (m.r x.d) (m.sec x)with
 |true=>rw[ae (.inr ⟨hk,by unfold zo;rw[hc,hh];rfl⟩)];obtain⟨q,hq,e1,e2⟩:=al5 hx hk W G H hu (go:=(AO m.pc x).1) (cc:=x.op) (kn:=ZB) (fun _=>⟨hc,hh⟩);refine⟨q,ZV _ ?_,e1,e2⟩;unfold ib;rw[ae (ahZ hx (.inl hk) h0 h1)];exact hq
 |false=>
   rw[aa (fun e=>by
    rcases e with e|e
    .exact Fn
    .have:=e.2;unfold zo at this;rw[hh,au]at this;cases this)]
   obtain⟨q,hq,e1,e2⟩:=al5 hx hk W G H hu (go:=Ac .add .i64 m.pc 1) (cc:=iu x.op) (kn:=gD x.op) (fun h=>⟨(rx (w:=64) (a:=m.r x.d) (b:=m.sec x) h).2,by rw[(rx h).1,hh];rfl⟩);refine⟨q,ZZ _ ?_,e1,e2⟩;unfold gF;rw[aa Fn];exact hq
def ao2{m:Ms}(hp:p.l.length<=maxLen)(Aj:(aY p).2=0)(W:WM p m)(h0:0<=m.pc)(h1:m.pc<(p.l.length:Int))(G:GA s)(H:SH s m)(he:(bD p m.pc s).2=0):
  halt p m≠3/\(halt p m=0->WM p (DF p m)/\∃q∈(bD p m.pc s).1,q.1=(DF p m).pc/\SH q.2 (DF p m)):=by
 have hx:=dx hp Aj h0 h1;have hc:=xm Aj;obtain⟨⟨_,_,n64⟩,_⟩:=cL hp Aj;obtain⟨d0,d1,s0,s1,_,_,k0,k6⟩:=cz hx;unfold bD at he ⊢;by_cases hu:fC s (Dy (ab p.l m.pc)).toNat=ZB
 .rw[ae hu]at he;cases he
 rw[aa hu]at he ⊢;have hu:fC s (Dy (ab p.l m.pc)).toNat=ZC:=X2;by_cases hm:(BD p (ab p.l m.pc) s).2=0
 rotate_left
 .rw[aa hm]at he;exact(hm he).elim
 rw[ae hm];have hw:=akI hx W H hu;show halt p m≠3/\(halt p m=0->WM p (DF p m)/\∃q∈gF m.pc (ab p.l m.pc) (BD p (ab p.l m.pc) s).1 (cy (ab p.l m.pc) s)++ib m.pc (ab p.l m.pc) (BD p (ab p.l m.pc) s).1 (cy (ab p.l m.pc) s),q.1=(DF p m).pc/\SH q.2 (DF p m));have on:(ab p.l m.pc).k≠3->(ab p.l m.pc).k≠4->(ab p.l m.pc).k≠6->∀s1,SH s1 (ee m (ab p.l m.pc))->∃q∈gF m.pc (ab p.l m.pc) s1 (cy (ab p.l m.pc) s)++ib m.pc (ab p.l m.pc) s1 (cy (ab p.l m.pc) s),q.1=(DF p m).pc/\SH q.2 (DF p m):=fun h3 h4 h6 s1 hs=>by
  refine⟨(Ac .add .i64 m.pc 1,s1),ZZ _ ?_,?_,hs⟩
  .unfold gF C0 iw;rw[aa Fn,show((ab p.l m.pc).k==3)=ZC from jJ.2 h3];exact dA.2 rfl
  .show _=Hv m (ab p.l m.pc);unfold Hv;rw[aa Fn]
 have wm:WM p (ee m (ab p.l m.pc))->WM p (DF p m):=fun h=>⟨h.rl,h.rv,h.st,h.an,h.cx,h.cl,h.fm,h.fl⟩
 have hk:(ab p.l m.pc).k=0\/(ab p.l m.pc).k=1\/(ab p.l m.pc).k=2\/(ab p.l m.pc).k=3\/(ab p.l m.pc).k=4\/(ab p.l m.pc).k=5\/(ab p.l m.pc).k=6:=Fn;rcases hk with hk|hk|hk|hk|hk|hk|hk
 ·
  have hh:=qx hw (.inl hk);have hb:ee m (ab p.l m.pc)=m.set (ab p.l m.pc).d (PU (ab p.l m.pc).op (ab p.l m.pc).w (m.r (ab p.l m.pc).d) (m.sec (ab p.l m.pc))):=by unfold ee;rw[ae hk]
  have GM:=G.mid (p:=p) d0 d1 s0 s1 hm;have hv:BD p (ab p.l m.pc) s=(BX s (ab p.l m.pc).d (Dv (ab p.l m.pc) (Ao s (ab p.l m.pc).d) (cy (ab p.l m.pc) s)),0):=by unfold BD;rw[ae hk]
  rw[hv]at GM ⊢;have hd:=aul hx hk W G H hu;refine⟨by omega,fun _=>⟨wm ?_,on Fn Fn Fn _ ?_⟩⟩
  .rw[hb];refine W.set d0 d1 ?_;have ho:=abX hx hk;unfold PU;rw[ae ho];obtain⟨_,sb⟩:=yx hx W H;exact eG _ _ _ _ (W.r _).1 (W.r _).2 sb.1 sb.2
  .rw[hb];exact H.sets W d0 d1 hd GM
 ·
  obtain⟨l1,l2,l3⟩:=aqb hx hk hc W G H hm;have hh:=aif hw hk l1;have hb:ee m (ab p.l m.pc)=m.set (ab p.l m.pc).d (FQ m.mem (FX (m.r (ab p.l m.pc).s) (ab p.l m.pc).off) (ZG .i64 (ab p.l m.pc).sz)):=by unfold ee;rw[aa Fn,ae hk]
  refine⟨by omega,fun _=>⟨wm (hb▸l3),on Fn Fn Fn _ (hb▸l2)⟩⟩
 ·
  obtain⟨l1,l2,l3⟩:=ajZ hx hk hc W G H hm;have hh:=zq hw hk rfl rfl l1;exact⟨by omega,fun _=>⟨wm l3,on Fn Fn Fn _ l2⟩⟩
 ·
  have hh:=qx hw (.inr (.inl hk));have hb:ee m (ab p.l m.pc)=m:=by unfold ee;rw[aa Fn,aa Fn,aa Fn,aa Fn]
  have hv:BD p (ab p.l m.pc) s=(s,0):=by unfold BD;rw[aa Fn,aa Fn,aa Fn,aa Fn]
  rw[hv];refine⟨by omega,fun _=>⟨wm (hb.symm▸W),?_⟩⟩;obtain⟨q,q1,q2,q3⟩:=aqM hx hk W G H hu h0 Fn;refine⟨q,q1,q2,?_⟩;show SH q.2 {ee m (ab p.l m.pc)with pc:=Hv m (ab p.l m.pc)};rw[hb];exact q3
 ·
  have hh:=qx hw (.inr (.inr hk));have hb:ee m (ab p.l m.pc)=m:=by unfold ee;rw[aa Fn,aa Fn,aa Fn,aa Fn]
  have hv:BD p (ab p.l m.pc) s=(s,0):=by unfold BD;rw[aa Fn,aa Fn,aa Fn,aa Fn]
  rw[hv];refine⟨by omega,fun _=>⟨wm (hb.symm▸W),((AO m.pc (ab p.l m.pc)).1,s),ZV _ ?_,?_,?_⟩⟩
  .unfold ib C0 iw;rw[ae (ahZ hx (.inr hk) h0 Fn),show((ab p.l m.pc).k==3)=ZC from jJ.2 Fn];exact dA.2 rfl
  .show _=Hv m (ab p.l m.pc);unfold Hv;rw[ae (.inl hk)]
  .show SH s {ee m (ab p.l m.pc)with pc:=Hv m (ab p.l m.pc)};rw[hb];exact H
 ·
  by_cases ha:m.an.length=0
  .have hh:=aig hw hk ha;exact⟨by omega,fun h=>by omega⟩
  have hh:=aih hw hk ha;have hb:ee m (ab p.l m.pc)=m.call (ab p.l m.pc):=by unfold ee;rw[aa Fn,aa Fn,aa Fn,ae hk]
  have hv:BD p (ab p.l m.pc) s=(Qx s,0):=by unfold BD;rw[aa Fn,aa Fn,aa Fn,ae hk]
  rw[hv];obtain⟨q1,q2⟩:=ard (x:=ab p.l m.pc) W G H ha;exact⟨by omega,fun _=>⟨wm (hb▸q2),on Fn Fn Fn _ (hb▸q1)⟩⟩
 ·
  have hh:=am9 hw hk;exact⟨by omega,fun h=>by omega⟩
def Lj(i:Nat):tb 0 i=ZC:=by unfold tb;simp
def au6{k:Kn}(w:k.wf)(h:AX k 0=ZB):Lc (Ep 0) k=ZB:=by
 rw[bk w]at h;rw[ahH w];intro i hi;obtain⟨h1,h2⟩:=h i hi;rw[Lj]at h2;refine⟨?_,h1,?_,?_⟩
 .show(tb 0 i&&tb 0 i)=ZC;rw[Lj];rfl
 .show(tb 0 i||tb k.m i)=tb k.m i;rw[Lj,Bool.false_or]
 .show(tb 0 i &&!tb k.m i)=tb k.v i;rw[Lj];exact h2
def ZT(t:Ty):Prop:=t.k=1/\A3 t.s 0=ZB
def ZT.wi(h:ZT t)(g:GT t):LG (DQ (Cb 0)) t=ZB:=by
 obtain⟨hk,hv⟩:=h;have k0:(t.k==0)=ZC:=by rw[hk];rfl
 cases hs:H5 t with
 |true=>exact arO k0 rfl hs
 |false=>rw[auM k0 rfl hs (by rw[hk];rfl) rfl];have h1:=fB hv;have h2:=fT hv;rw[aQ]at h1;have e:B0 0=0:=XZ;rw[e]at h1;have hb:Nj (Hz 0) t.s.r=ZB:=aug XZ (zZ (eR hv)) ⟨h1.1,h1.2.1,by show _<=B0 0;rw[e];exact h1.2.2.1,by show B0 0<=_;rw[e];exact h1.2.2.2⟩;show(Nj (Hz 0) t.s.r&&Lc (Ep 0) t.s.k)=ZB;rw[hb,au6 g.wf.k h2];rfl
def aeb:A3 vall 0=ZB:=by decide +kernel
def ZT.join{a b:Ty}(h:ZT a)(ga:GT a)(gb:GT b)(hb:tset b=ZB):ZT (cP w a b):=by
 obtain⟨hk,hv⟩:=h;have Jd:b.k≠0:=by intro e;rw[WP (by rw[e];rfl)]at hb;cases hb
 unfold cP ek;rw[aa (by rintro (e|e);omega;exact Jd e)];split
 .exact⟨rfl,aeb⟩
 .rename_i BM
  try rw[ae hk]
  have hbk:b.k=1:=Fn;refine⟨rfl,?_⟩;show A3 (if w=ZB then DJ a.s b.s else jF a.s b.s) 0=ZB;have m1:=yc ga.ok hk;have m2:=yc gb.ok hbk;split
  .exact zW ga.wf gb.wf ⟨by decide,by decide⟩ m1 m2 (.inl hv)
  .exact uY ga.wf gb.wf ⟨by decide,by decide⟩ m1 m2 (.inl hv)
def zY:Cj vall=vall:=by kernel_rfl
def xf(k:Kn):jv kall k=kall:=by
 unfold jv;split
 .have e:bits .or .u64 (bits .or .u64 kall.m k.m) (bits .xor .u64 kall.v k.v)=18446744073709551615:=by
   refine TD (iT _ _) ⟨by decide,by decide⟩ (fun i hi=> ?_);have one:tb 18446744073709551615 i=ZB:=by have:∀i,i<64->tb 18446744073709551615 i=ZB:=XZ;exact this i hi
   rw[fJ,fJ,show tb kall.m i=ZB from one,one];rfl
  rw[e];show(⟨bits .andNot .u64 0 18446744073709551615,18446744073709551615⟩:Kn)=⟨0,18446744073709551615⟩;rw[show bits .andNot .u64 0 18446744073709551615=0 by decide +kernel]
 .rfl
def alV{s:Sc}(h:s.wf):(if w=ZB then DJ vall s else jF vall s)=vall:=by
 obtain⟨⟨⟨a1,a2⟩,⟨a3,a4⟩,⟨a5,a6⟩,⟨a7,a8⟩⟩,-⟩:=h;split
 .unfold DJ;split
  .have e:Gc vall.r s.r=ball:=by
    show Gc ball s.r=ball;unfold Gc ball;rw[aa (fun q=>by have:=Ah q.2;have:s.r.ul<0:=this;omega),aa (fun q=>by have:=Ah q.2;have:18446744073709551615<s.r.uh:=this;omega),aa (fun q=>by have:=Ah q.2;have:s.r.sl < -9223372036854775808:=this;omega),aa (fun q=>by have:=Ah q.2;have:9223372036854775807<s.r.sh:=this;omega)]
   rw[e,show vall.k=kall from rfl,xf];exact zY
  .rfl
 .unfold jF;split
  .have e:jx vall.r s.r=ball:=by
    show jx ball s.r=ball;unfold jx;split
    .show(⟨min 0 s.r.ul,max 18446744073709551615 s.r.uh,min (-9223372036854775808) s.r.sl,max 9223372036854775807 s.r.sh⟩:Rg)=ball;rw[Int.min_eq_left a1,Int.max_eq_left a4,Int.min_eq_left a5,Int.max_eq_left a8];rfl
    .rfl
   rw[e,show vall.k=kall from rfl,xf];exact zY
  .rfl
def PT(c z:Int)(t:Ty):Prop:=t.k=0\/t=tscal\/(t.k=c/\t.lo<=z/\z<=t.hi)
def PT.wi(h:PT c z t)(hc:c=2\/c=3):LG ⟨c,0,0,0,0,0,0,z,z⟩ t=ZB:=by
 have c0:(c==0)=ZC:=by rcases hc with rfl|rfl<;>rfl
 have c1:(c==1)=ZC:=by rcases hc with rfl|rfl<;>rfl
 rcases h with h|h|⟨h,h1,h2⟩
 .exact auN (by rw[h];rfl)
 .rw[h];exact arO ST c0 aeH
 .have hs:H5 t=ZC:=by
   unfold H5;rw[h,show(c==tscal.k)=ZC from c1];rfl
  rw[auL (by rw[h];exact c0) c0 hs (by show(c==t.k)=ZB;rw[h];simp) c1];show(decide (t.lo<=z)&&decide (z<=t.hi))=ZB;rw[dm h1,dm h2];rfl
def PT.join{a b:Ty}(hc:c=2\/c=3)(hz : -1048576<=z/\z<=1048576)(h:PT c z a)(ga:GT a)(gb:GT b):PT c z (cP w a b):=by
 unfold cP ek;split
 .exact .inl rfl
 rename_i h0;split
 .exact .inr (.inl rfl)
 rename_i BM;rcases h with h|h|⟨h,h1,h2⟩
 .exact ai (.inl h) h0
 .have hk:a.k=1:=by rw[h];rfl
  rw[ae hk,h];refine .inr (.inl ?_);show ty 1 (if w=ZB then DJ vall b.s else jF vall b.s) 0 0=tscal;rw[alV gb.wf];rfl
 .rw[aa Fn];refine .inr (.inr ⟨h,?_,?_⟩)
  .show Hx w a b<=z;unfold Hx;split<;>omega
  .show z<=Hw w a b;unfold Hw;split<;>omega
structure F0(s:Sta):Prop where
 r0:s.r0.k=0
 r1:PT 2 0 s.r1
 r2:s.r2.k=0
 r3:s.r3.k=0
 r4:s.r4.k=0
 r5:s.r5.k=0
 r6:s.r6.k=0
 r7:s.r7.k=0
 r8:s.r8.k=0
 r9:s.r9.k=0
 r10:PT 3 64 s.r10
 s0:ZT s.s0
 s1:ZT s.s1
 s2:ZT s.s2
 s3:ZT s.s3
 s4:ZT s.s4
 s5:ZT s.s5
 s6:ZT s.s6
 s7:ZT s.s7
def fM{a b:Ty}(h:a.k=0):(cP w a b).k=0:=by unfold cP ek;rw[ae (.inl h)];rfl
def F0.join{a b:Sta}(h:F0 a)(ga:GA a)(gb:GA b)(w:Bool):F0 (iO w a b):=by
 rw[(oh ga.may gb.may).1];exact⟨fM h.r0,h.r1.join (.inl rfl) ⟨by decide,by decide⟩ ga.r1 gb.r1,fM h.r2,fM h.r3,fM h.r4,fM h.r5,fM h.r6,fM h.r7,fM h.r8,fM h.r9,h.r10.join (.inr rfl) ⟨by decide,by decide⟩ ga.r10 gb.r10,
  h.s0.join ga.s0.1 gb.s0.1 gb.s0.2,h.s1.join ga.s1.1 gb.s1.1 gb.s1.2,h.s2.join ga.s2.1 gb.s2.1 gb.s2.2,h.s3.join ga.s3.1 gb.s3.1 gb.s3.2,h.s4.join ga.s4.1 gb.s4.1 gb.s4.2,h.s5.join ga.s5.1 gb.s5.1 gb.s5.2,h.s6.join ga.s6.1 gb.s6.1 gb.s6.2,h.s7.join ga.s7.1 gb.s7.1 gb.s7.2⟩
def kq:GT (DQ (Cb 0)):=zu XZ (sW ⟨by decide,by decide⟩)
def alu:GA jN:=
 ⟨gt_nil,aik (.inl rfl) ST,gt_nil,gt_nil,gt_nil,gt_nil,gt_nil,gt_nil,gt_nil,gt_nil,aik (.inr rfl) ST,
  ⟨kq,by decide +kernel⟩,⟨kq,by decide +kernel⟩,⟨kq,by decide +kernel⟩,⟨kq,by decide +kernel⟩,⟨kq,by decide +kernel⟩,⟨kq,by decide +kernel⟩,⟨kq,by decide +kernel⟩,⟨kq,by decide +kernel⟩⟩
def oa:ZT (DQ (Cb 0)):=⟨rfl,th ⟨by decide,by decide⟩⟩
def alA:F0 jN:=⟨rfl,.inr (.inr ⟨rfl,by decide,by decide⟩),rfl,rfl,rfl,rfl,rfl,rfl,rfl,rfl,.inr (.inr ⟨rfl,by decide,by decide⟩),oa,oa,oa,oa,oa,oa,oa,oa⟩
structure VJ(p:Prog)(r:VR):Prop where
 vi:VI p r
 s0:gt r.T (0:Nat) 0=1
 f:F0 (aq r.T (0:Nat))
 ok:∀k:Nat,k<64->gt r.T k 0=1->GA (aq r.T k)
 lt:∀k:Nat,k<64->gt r.T k 0=1->k<p.l.length
def DN(p:Prog)(r:VR):Prop:=∀k:Nat,k<64->gt r.T k 0=1->tb r.w k=ZC->(bD p k (aq r.T k)).2=0/\∀q∈(bD p k (aq r.T k)).1,gt r.T q.1 0=1
def jL(S:Sta)(hn:n<T.length):aq (T.set n (1::BI S)) (n:Int)=S:=by
 have h:∀c,gt (T.set n (1::BI S)) (n:Int) c=(1::BI S).getD c 0:=fun c=>by rw[aii n c hn,ae rfl]
 simp only[aq,Bp,h];rfl
def aqW(hn:n<T.length)(k:Nat)(h:gt T k 0=1\/k=n):gt (T.set n (1::BI S)) (k:Int) 0=1:=by
 rw[aii k 0 hn];split
 .rfl
 next e=>exact h.resolve_right e
section
variable {p:Prog}{r:VR}{q:Int×Sta}
def ix(hq:q.1=(n:Int)):AQ r q=r/\gt r.T n 0=1\/∃S g,AQ r q=⟨Hn r.w n,r.T.set n (1::BI S),g⟩/\(gt r.T n 0=1/\S=Ju r q\/¬gt r.T n 0=1/\S=q.2):=by
 unfold AQ;rw[hq,cY];split
 .rename_i h1;split
  .exact .inl ⟨rfl,h1⟩
  .exact .inr ⟨_,_,rfl,.inl ⟨h1,rfl⟩⟩
 next h1=>exact .inr ⟨_,_,rfl,.inr ⟨h1,rfl⟩⟩
def akC(hq:q.1=(n:Int))(hn:n<64)(hk:k<64):((AQ r q).T[k]? =r.T[k]? /\tb (AQ r q).w k=tb r.w k)\/tb (AQ r q).w k=ZB:=by
 rcases ix (r:=r) hq with⟨h,-⟩|⟨S,g,h,-⟩
 .rw[h];exact .inl ⟨rfl,rfl⟩
 .rw[h];by_cases e:k=n
  .right;show tb (Hn r.w n) k=ZB;rw[yg hn hk,e];simp
  .left;refine⟨by show(r.T.set n (1::BI S))[k]? =r.T[k]?;rw[pB (fun e2=>e e2.symm)],?_⟩;show tb (Hn r.w n) k=tb r.w k;rw[yg hn hk];simp[e]
def mE(hq:q.1=(n:Int))(hn:n<r.T.length)(k:Nat)(h:gt r.T k 0=1\/k=n):gt (AQ r q).T k 0=1:=by
 rcases ix (r:=r) hq with⟨e,h1⟩|⟨S,g,e,-⟩
 .rw[e];rcases h with h|h
  .exact h
  .rw[h];exact h1
 .rw[e];exact aqW hn k h
def amG(hv:VJ p r)(hl:p.l.length<=64)(hq:q.1=(n:Int))(hn:n<p.l.length)(hg:GA q.2):VJ p (AQ r q):=by
 have hT:n<r.T.length:=by rw[hv.vi.T];omega
 have vi:=hv.vi.put (q:=q) (by rw[hq];omega) hl;refine⟨vi,mE hq hT 0 (.inl hv.s0),?_,?_,?_⟩
 .rcases ix (r:=r) hq with⟨e,-⟩|⟨S,g,e,hS⟩
  .rw[e];exact hv.f
  .rw[e];show F0 (aq (r.T.set n (1::BI S)) (0:Nat));by_cases h0:n=0
   .subst h0;rw[jL S hT];rcases hS with⟨h1,rfl⟩|⟨h1,-⟩
    .unfold Ju;rw[hq];exact hv.f.join (hv.ok 0 Fn hv.s0) hg _
    .exact ai hv.s0 h1
   .rw[dT (T':=r.T) (pB h0)];exact hv.f
 .intro k hk hs;rcases ix (r:=r) hq with⟨e,-⟩|⟨S,g,e,hS⟩
  .rw[e]at hs ⊢;exact hv.ok k hk hs
  .rw[e]at hs ⊢;show GA (aq (r.T.set n (1::BI S)) k);by_cases h0:n=k
   .subst h0;rw[jL S hT];rcases hS with⟨h1,rfl⟩|⟨h1,rfl⟩
    .unfold Ju;rw[hq];exact(hv.ok n hk h1).join hg _
    .exact hg
   .have e2:(r.T.set n (1::BI S))[k]? =r.T[k]? :=pB h0;rw[dT e2];exact hv.ok k hk ((gV e2 0).symm.trans hs)
 .intro k hk hs;rcases ix (r:=r) hq with⟨e,-⟩|⟨S,g,e,-⟩
  .rw[e]at hs;exact hv.lt k hk hs
  .rw[e]at hs;by_cases h0:n=k
   .exact Fn
   .have e2:(r.T.set n (1::BI S))[k]? =r.T[k]? :=pB h0;exact hv.lt k hk ((gV e2 0).symm.trans hs)
end
def tZ{p:Prog}(hl:p.l.length<=64):∀(l:List (Int×Sta)) {r:VR},VJ p r->(∀q∈l,(0<=q.1/\q.1<(p.l.length:Int))/\GA q.2)->
  VJ p (l.foldl AQ r)/\(∀k:Nat,k<64->((l.foldl AQ r).T[k]? =r.T[k]? /\tb (l.foldl AQ r).w k=tb r.w k)\/tb (l.foldl AQ r).w k=ZB)/\(∀k:Nat,gt r.T k 0=1->gt (l.foldl AQ r).T k 0=1)/\∀q∈l,gt (l.foldl AQ r).T q.1 0=1
 |[],r,h,_=>⟨h,fun _ _=>.inl ⟨rfl,rfl⟩,fun _ h=>h,fun q hq=>by cases hq⟩
 |q::l,r,h,hq=>by
   obtain⟨hr,hg⟩:=hq q bW;obtain⟨n,hn⟩:=cj hr.1;have hT:n<r.T.length:=by rw[h.vi.T];omega
   have h1:=amG h hl hn Fn hg;obtain⟨a,b,c,d⟩:=tZ hl l h1 (fun x hx=>hq x (cR _ hx));refine⟨a,fun k hk=> ?_,fun k hs=>c k (mE hn hT k (.inl hs)),fun x hx=> ?_⟩
   .rcases b k hk with⟨b1,b2⟩|b1
    .rcases akC (r:=r) hn Fn hk with⟨c1,c2⟩|c1
     .exact .inl ⟨b1.trans c1,b2.trans c2⟩
     .exact .inr (b2.trans c1)
    .exact .inr b1
   .rcases List.mem_cons.1 hx with rfl|hx
    .rw[hn];exact c n (mE hn hT n (.inr rfl))
    .exact d x hx
def arK(hl:p.l.length<=maxLen)(hk:(aY p).2=0){r:VR}(h:VJ p r)(hd:DN p r)(hw:r.w≠0)(he:(bD p (CO r.w) (aq r.T (CO r.w))).2=0):
  VJ p ((bD p (CO r.w) (aq r.T (CO r.w))).1.foldl AQ (jp r))/\DN p ((bD p (CO r.w) (aq r.T (CO r.w))).1.foldl AQ (jp r)):=by
 obtain⟨⟨q1,q2,q3⟩,-,-⟩:=cL hl hk;obtain⟨Oo,-⟩:=h.vi.next hw;obtain⟨k,e1,e2,e3,e4⟩:=uw (by have:=h.vi.w;omega) h.vi.w.2;obtain⟨k5,k6⟩:=h.vi.on k e2 e3;rw[e1]at he ⊢;have h2:VJ p (jp r):=⟨Oo,h.s0,h.f,h.ok,h.lt⟩
 have hx:A2 (ab p.l k)=ZB:=kT hl hk (Int.natCast_nonneg k) Fn;have hg:=(h.ok k e2 k6).sides hx;obtain⟨a,b,c,d⟩:=tZ q3 (bD p k (aq r.T k)).1 h2 (fun q hq=>⟨mo hl hk k5 q hq,hg q hq⟩);refine⟨a,fun j hj hs hb=> ?_⟩;rcases b j hj with⟨b1,b2⟩|b1
 .have eS:aq ((bD p k (aq r.T k)).1.foldl AQ (jp r)).T (j:Int)=aq r.T j:=dT b1;have JO:gt r.T j 0=1:=(gV b1 0).symm.trans hs;rw[eS];by_cases hjk:j=k
  .subst hjk;exact⟨he,d⟩
  .have UR:tb r.w j=ZC:=by
    have:tb (jp r).w j=(tb r.w j &&!(j==k)):=e4 j hj;rw[b2,this]at hb;simpa[hjk]using hb
   obtain⟨f1,f2⟩:=hd j hj JO UR;refine⟨f1,fun q hq=> ?_⟩;have Vb:=f2 q hq;obtain⟨m,hm⟩:=cj (mo hl hk (h.lt j hj JO) q hq).1;rw[hm]at Vb ⊢;exact c m Vb
 .rw[b1]at hb;cases hb
def UK:∀k:Nat,k<64->gt vini.T (k:Int) 0=1->k=0:=by decide +kernel
def arM(hl:1<=p.l.length):VJ p vini where
 vi:=VI.ini hl
 s0:=XZ
 f:=by rw[show aq vini.T (0:Nat)=jN by kernel_rfl];exact alA
 ok k hk hs:=by obtain rfl:=UK k hk hs;rw[show aq vini.T (0:Nat)=jN by kernel_rfl];exact alu
 lt k hk hs:=by obtain rfl:=UK k hk hs;exact hl
def at5:DN p vini:=fun k hk hs hb=>by obtain rfl:=UK k hk hs;rw[show tb vini.w 0=ZB by decide +kernel]at hb;cases hb
def jc(T:LL)(i:Int):Sta:=⟨Bp T i 0,Bp T i 9,Bp T i 18,Bp T i 27,Bp T i 36,Bp T i 45,Bp T i 54,Bp T i 63,Bp T i 72,Bp T i 81,Bp T i 90,Bp T i 99,Bp T i 108,Bp T i 117,Bp T i 126,Bp T i 135,Bp T i 144,Bp T i 153,Bp T i 162⟩
def abZ(f:Nat->List Int)(h:k<n)(c:Nat):gt ((List.range n).map f) (k:Int) c=(f k).getD c 0:=by
 have e:((List.range n).map f).getD k []=f k:=by rw[bZ,js,List.getElem?_range h];rfl
 unfold gt;rw[cY,e]
def qL(h:k<p.l.length):gt (me p T).1 (k:Int) 0=1↔gt T k 0=1:=by
 unfold me;rw[abZ _ h];show AD (gt T k 0==1)=1↔_;by_cases e:gt T k 0=1
 .rw[e];simp[AD]
 .rw[show(gt T k 0==1)=ZC by simpa using e];simp[AD,e]
def uI(h:k<p.l.length)(hs:gt T k 0=1):jc (me p T).2.1 (k:Int)=aq T k:=by
 have e:∀c,gt (me p T).2.1 (k:Int) c=(BI (aq T k)).getD c 0:=fun c=>by unfold me;rw[abZ _ h,ae hs]
 simp only[jc,Bp,e];rfl
def eH(p:Prog):Nat->Ms->List Int
 |0,_=>[]
 |f+1,m=>m.pc::(if halt p m=0 then eH p f (DF p m)else[])
def ag4{m:Ms}(h:0<left)(hh:halt p m=0):eH p left.toNat m=m.pc::eH p (left-1).toNat (DF p m):=by rw[show left.toNat=(left-1).toNat+1 by omega];show m.pc::(if _ then _ else _)=_;rw[ae hh]
def ac6{m:Ms}(h:0<left)(hh:halt p m≠0):eH p left.toNat m=[m.pc]:=by rw[show left.toNat=(left-1).toNat+1 by omega];show m.pc::(if _ then _ else _)=_;rw[aa hh]
def ac5{m:Ms}(h:¬0<left):eH p left.toNat m=[]:=by rw[show left.toNat=0 by omega];rfl
def up(c:List Int)(i:Int):List Int:=c.set i.toNat (Ac .add .i64 (c.getD i.toNat 0) 1)
def MC(b:Int)(l:LL)(a:Int):Int:=if b<=a/\a-b<(l.length:Int)then a-b else 0
def auF{l:LL}{n:Int}(h:decide (a<b)=ZB):(0:Int)=MC b l a/\ZC=inr b l a n:=by have:=Ah h;unfold MC inr;rw[aa Fn,ff (by omega:¬b<=a)];exact⟨rfl,rfl⟩
def al2(ha:Ae .u64 a=ZB)(hb:0<=b)(h:decide (a<b)=ZC):Ac .sub .u64 a b=a-b/\0<=a-b/\a<=18446744073709551615:=by have:=xj ha;have:=Ab h;exact⟨Qj Fn Fn,by omega,by omega⟩
def arI{l:LL}{n:Int}(ha:Ae .u64 a=ZB)(hb:0<=b)(hl:l.length<=1048576)(hn:1<=n)(h0:decide (a<b)=ZC)(h1:decide (Ac .sub .u64 a b<ZG .u64 (l.length:Int))=ZC):(0:Int)=MC b l a/\ZC=inr b l a n:=by obtain⟨e1,e2,e3⟩:=al2 ha hb h0;have:=Ab h1;rw[e1,Qj Fn Fn]at this;unfold MC inr;rw[aa Fn,ff (by omega:¬a-b+n<=(l.length:Int)),au];exact⟨rfl,rfl⟩
def auG{l:LL}{n:Int}(ha:Ae .u64 a=ZB)(hb:0<=b)(hl:l.length<=1048576)(hn:1<=n)(hn8:n<=8)(h0:decide (a<b)=ZC)(h1:decide (Ac .sub .u64 a b<ZG .u64 (l.length:Int))=ZB):ZG .i64 (Ac .sub .u64 a b)=MC b l a/\(!decide (Ac .sub .i64 (l.length:Int) (ZG .i64 (Ac .sub .u64 a b))<n))=inr b l a n:=by
 obtain⟨e1,e2,e3⟩:=al2 ha hb h0;have h1:=Ah h1;have h0:=Ab h0;rw[e1,Qj Fn Fn]at h1;rw[e1,GE Fn Fn,show Ac .sub .i64 (l.length:Int) (a-b)=l.length-(a-b)from GE Fn Fn];unfold MC inr;rw[ae ⟨by omega,h1⟩,dm (by omega:b<=a),Bool.true_and];refine⟨rfl,?_⟩;by_cases h3:a-b+n<=(l.length:Int)
 .rw[dm h3,ff Fn];rfl
 .rw[ff h3,dm Fn];rfl
def rA{l:LL}{n:Int}(h:inr b l a n=ZB)(hn:1<=n):MC b l a=a-b:=by simp only[inr,ne,aE]at h;unfold MC;rw[ae ⟨h.1,by omega⟩]
def MJ(f:LL):List Int:=f.map fun r=>r.getD 0 0
def gO(m:Ms):List Int:=m.rg++m.st::MJ m.fm
def mm(p:Prog):Nat->Ms->LL
 |0,_=>[]
 |f+1,m=>gO m::(if halt p m=0 then mm p f (DF p m)else[])
def akd{m:Ms}(h:0<left)(hh:halt p m=0):mm p left.toNat m=gO m::mm p (left-1).toNat (DF p m):=by rw[show left.toNat=(left-1).toNat+1 by omega];show gO m::(if _ then _ else _)=_;rw[ae hh]
def afo{m:Ms}(h:0<left)(hh:halt p m≠0):mm p left.toNat m=[gO m]:=by rw[show left.toNat=(left-1).toNat+1 by omega];show gO m::(if _ then _ else _)=_;rw[aa hh]
def afn{m:Ms}(h:¬0<left):mm p left.toNat m=[]:=by rw[show left.toNat=0 by omega];rfl
def vL{p:Prog}:∀(f:Nat) (m:Ms),(mm p f m).length=(eH p f m).length
 |0,m=>rfl
 |f+1,m=>by
   unfold mm eH;split
   .rw[YQ,YQ,vL f]
   .rfl
def TV(L:List Int):LL:=L.map fun i=>[i]
def cW(p:Prog)(cx an:LL)(fu:Int):LL×LL:=if kf p cx fu≠0 then([],[])else(TV (eH p fu.toNat (GC cx an)),mm p fu.toNat (GC cx an))
def mP(h:kf p cx fu=e)(he:e≠0):cW p cx an fu=([],[]):=by unfold cW;rw[ae (by rw[h];exact he)]
def frI(U:Env)(v:Nat):List Int:=[U.i v,U.i (v+1),U.i (v+2),U.i (v+3),U.i (v+4),U.i (v+5),U.i (v+6),U.i (v+7),U.i (v+8),U.i (v+9),U.i (v+10),U.i (v+11),U.i (v+12),U.i (v+13),U.i (v+14),U.i (v+15),U.i (v+16),U.i (v+17),U.i (v+18),U.i (v+19),U.i (v+20),U.i (v+21),U.i (v+22),U.i (v+23),U.i (v+24),U.i (v+25),U.i (v+26),U.i (v+27),U.i (v+28),U.i (v+29),U.i (v+30),U.i (v+31),U.i (v+32),U.i (v+33),U.i (v+34),U.i (v+35),U.i (v+36),U.i (v+37),U.i (v+38),U.i (v+39),U.i (v+40),U.i (v+41),U.i (v+42),U.i (v+43),U.i (v+44),U.i (v+45),U.i (v+46),U.i (v+47),U.i (v+48),U.i (v+49),U.i (v+50),U.i (v+51),U.i (v+52),U.i (v+53),U.i (v+54),U.i (v+55),U.i (v+56),U.i (v+57),U.i (v+58),U.i (v+59),U.i (v+60),U.i (v+61),U.i (v+62),U.i (v+63)]
def frDJ(ds:List Dt):List Int:=[dI ds 13,dI ds 14,dI ds 15,dI ds 16,dI ds 17,dI ds 18,dI ds 19,dI ds 20,dI ds 21,dI ds 22,dI ds 23,dI ds 24,dI ds 25,dI ds 26,dI ds 27,dI ds 28,dI ds 29,dI ds 30,dI ds 31,dI ds 32,dI ds 33,dI ds 34,dI ds 35,dI ds 36,dI ds 37,dI ds 38,dI ds 39,dI ds 40,dI ds 41,dI ds 42,dI ds 43,dI ds 44,dI ds 45,dI ds 46,dI ds 47,dI ds 48,dI ds 49,dI ds 50,dI ds 51,dI ds 52,dI ds 53,dI ds 54,dI ds 55,dI ds 56,dI ds 57,dI ds 58,dI ds 59,dI ds 60,dI ds 61,dI ds 62,dI ds 63,dI ds 64,dI ds 65,dI ds 66,dI ds 67,dI ds 68,dI ds 69,dI ds 70,dI ds 71,dI ds 72,dI ds 73,dI ds 74,dI ds 75,dI ds 76]
def msJ(ds:List Dt):Ms:=⟨[dI ds 1,dI ds 2,dI ds 3,dI ds 4,dI ds 5,dI ds 6,dI ds 7,dI ds 8,dI ds 9,dI ds 10,dI ds 11],dI ds 12,dI ds 77,dL ds 78,dL ds 79,dL ds 80,dL ds 81⟩
def kr{v:Nat}{σ:Env}(h:Ag n U σ)(hv:v+64<=n):frI σ v=frI U v:=by show(List.range 64).map (fun k=>σ.i (v+k))=(List.range 64).map (fun k=>U.i (v+k));exact List.map_congr_left fun k hk=>(h (v+k) (by have:=List.mem_range.1 hk;omega)).1.symm
def ais{f:LL}(h:f.length=64):[gt f 0 0,gt f 1 0,gt f 2 0,gt f 3 0,gt f 4 0,gt f 5 0,gt f 6 0,gt f 7 0,gt f 8 0,gt f 9 0,gt f 10 0,gt f 11 0,gt f 12 0,gt f 13 0,gt f 14 0,gt f 15 0,gt f 16 0,gt f 17 0,gt f 18 0,gt f 19 0,gt f 20 0,gt f 21 0,gt f 22 0,gt f 23 0,gt f 24 0,gt f 25 0,gt f 26 0,gt f 27 0,gt f 28 0,gt f 29 0,gt f 30 0,gt f 31 0,gt f 32 0,gt f 33 0,gt f 34 0,gt f 35 0,gt f 36 0,gt f 37 0,gt f 38 0,gt f 39 0,gt f 40 0,gt f 41 0,gt f 42 0,gt f 43 0,gt f 44 0,gt f 45 0,gt f 46 0,gt f 47 0,gt f 48 0,gt f 49 0,gt f 50 0,gt f 51 0,gt f 52 0,gt f 53 0,gt f 54 0,gt f 55 0,gt f 56 0,gt f 57 0,gt f 58 0,gt f 59 0,gt f 60 0,gt f 61 0,gt f 62 0,gt f 63 0]=MJ f:=by
 show(List.range 64).map (fun k:Nat=>gt f (k:Int) 0)=MJ f;refine List.ext_getElem (by simp[MJ,h]) fun i h1 h2=> ?_;have h3:i<f.length:=by simpa[MJ]using h2
 simp[gt,MJ,AH h3]
structure JAt(p:Prog)(cx an:LL)(fu left:Int)(m:Ms)(fr:List Int)(A L:LL):Prop where
 run:RunAt p cx an fu left m
 fr:fr=MJ m.fm
 at_:A++TV (eH p left.toNat m)=TV (eH p fu.toNat (GC cx an))
 sn:L++mm p left.toNat m=mm p fu.toNat (GC cx an)
 la:(A.length:Int)+left=fu
 ll:L.length=A.length
def WE(p:Prog)(cx an:LL)(fu:Int)(ds:List Dt):Prop:=JAt p cx an fu (dI ds 0) (msJ ds) (frDJ ds) (dL ds 82) (dL ds 83)
def JAt.init(h0:0<=fu)(hl:1<=p.l.length):JAt p cx an fu fu (GC cx an) (List.replicate 64 0) [] []:=⟨RunAt.init h0 hl,rfl,rfl,rfl,by show(0:Int)+fu=fu;omega,rfl⟩
def JAt.snap{m:Ms}(h:JAt p cx an fu left m fr A L):gO m=m.rg++m.st::fr:=by rw[h.fr];rfl
def JAt.go{FO:Int}{m m':Ms}{fr':List Int}{A' L':LL}(h:JAt p cx an fu left m fr A L)(hp:p.l.length<=maxLen)(Aj:(aY p).2=0)(hf:fu<=10000)(hl:0<left)(hh:halt p m=0)(hm:m'=DF p m)(he:FO=Ac .sub .i64 left 1)(hA:A'=A++[[m.pc]])(hL:L'=L++[gO m])(Km:fr'=MJ m'.fm):
  JAt p cx an fu FO m' fr' A' L'/\FO.toNat<left.toNat:=by
 obtain⟨g1,g2⟩:=h.run.go hp Aj hf hl hh hm he;have e1:Ac .sub .i64 left 1=left-1:=by have:=h.run.hi;have:=h.run.lo;exact GE Fn Fn
 refine⟨⟨g1,Km,?_,?_,?_,?_⟩,g2⟩
 .have:=h.at_;rw[ag4 hl hh]at this;rw[hA,hm,he,e1,List.append_assoc];exact this
 .have:=h.sn;rw[akd hl hh]at this;rw[hL,hm,he,e1,List.append_assoc];exact this
 .have:=h.la;rw[hA,he,e1,eo,List.length_singleton];omega
 .rw[hA,hL,eo,eo,h.ll];rfl
def JAt.end{m:Ms}(ho:kf p cx fu=0)(h:JAt p cx an fu left m fr A L)(hl:0<left){k:Int}(hh:halt p m=k)(hk:k≠0):cW p cx an fu=(A++[[m.pc]],L++[gO m]):=by unfold cW;rw[aa (by simp[ho]),<-h.at_,<-h.sn,ac6 hl (by rw[hh];exact hk),afo hl (by rw[hh];exact hk)];rfl
def JAt.out{m:Ms}(ho:kf p cx fu=0)(h:JAt p cx an fu left m fr A L)(hl:¬0<left):cW p cx an fu=(A,L):=by unfold cW;rw[aa (by simp[ho]),<-h.at_,<-h.sn,ac5 hl,afn hl];show(A++[],L++[])=(A,L);rw[ZP,ZP]
def I6(v:Int)(k:Nat):Int:=v / 2 ^ (8*k)
def ar2(v:Int):I6 v 0=v:=by unfold I6;rw[Nat.mul_zero,Int.pow_zero,Int.ediv_one]
def amm(h0:0<=v)(h1:v<=18446744073709551615)(k:Nat):0<=I6 v k/\I6 v k<=18446744073709551615:=by have hp:(0:Int)<2 ^ (8*k):=Int.pow_pos ST;exact⟨Int.ediv_nonneg h0 (Int.le_of_lt hp),Int.le_trans (Int.ediv_le_self _ h0) h1⟩
def ar1(h0:0<=v)(h1:v<=18446744073709551615)(k:Nat):Ac .shr .u64 (I6 v k) 8=I6 v (k+1):=by
 obtain⟨b0,b1⟩:=amm h0 h1 k;have hp:(0:Int)<2 ^ (8*k):=Int.pow_pos ST;show(I6 v k).fdiv (2 ^ min (8:Int).toNat 64)=_;rw[show min (8:Int).toNat 64=8 from rfl,Int.fdiv_eq_ediv_of_nonneg _ ST];have e:I6 v k / 2 ^ 8=I6 v (k+1):=by unfold I6;rw[Int.ediv_ediv_of_nonneg (Int.le_of_lt hp),<-Int.pow_add];rfl
 exact e
def auP(h0:0<=v)(h1:v<=18446744073709551615)(hk:k<8):ZG .u8 (Ac .and .u64 (I6 v k) 255)=ZG .u8 (Ac .shr .u64 v (Ac .mul .i64 8 (k:Int))):=by
 obtain⟨b0,b1⟩:=amm h0 h1 k;have e2:Ac .shr .u64 v (Ac .mul .i64 8 (k:Int))=I6 v k:=by rw[mulE hk];show v.fdiv (2 ^ min (((8*k:Nat):Int)).toNat 64)=_;rw[cY,Nat.min_eq_left Fn,Int.fdiv_eq_ediv_of_nonneg _ (Int.pow_nonneg ST)];rfl
 rw[e2];obtain⟨x,hx⟩:=cj b0;rw[hx]at b1 ⊢;have e3:Ac .and .u64 ((x:Nat):Int) 255=((x % 256:Nat):Int):=by show bits .and .u64 _ _=_;rw[show(255:Int)=((2 ^ 8-1:Nat):Int)from rfl,u64_and_nat _ _ Fn ST,Nat.and_two_pow_sub_one_eq_mod]
 rw[e3];have w8:∀z:Int,ZG .u8 z=z % 256:=fun z=>rfl;rw[w8,w8];omega
def Sj{l:LL}{n:Int}(W:Win b l a n)(hl:l.length<=1048576)(h0:0<=v)(h1:v<=18446744073709551615)(hk:k<n.toNat):
  st (putL l (a-b).toNat v k) (Ac .add .i64 (a-b) (k:Int)) 0 (ZG .u8 (Ac .and .u64 (I6 v k) 255))=putL l (a-b).toNat v (k+1):=by
 rw[auP h0 h1 (by have:=W.n8;omega)];exact putS W hl v hk
def ab2{l:List Int}(h:∀x∈l,Ae .u64 x=ZB)(i:Nat):0<=l.getD i 0/\l.getD i 0<=18446744073709551615:=by
 rw[bZ];cases hq:l[i]? with
 |none=>exact⟨Int.le_refl _,by decide⟩
 |some x=>exact xj (h x (fI hq))
def auj(rg:List Int):CU rg ((0:Nat):Int)=[]:=by
 unfold CU;show List.drop 1 (List.take 1 _)=[];cases rg with
 |nil=>rfl
 |cons x l=>rfl
def alT{rg:List Int}(h:(k:Int)<=5):(CU rg (k:Int)).length<=5:=by unfold CU;rw[show Ac .add .i64 1 (k:Int)=1+k from GE Fn Fn,List.length_drop,YZ,show(1:Int).toNat=1 from rfl];omega
def at8(s:Int):Ac .andNot .i64 (Ac .or .i64 (Ac .andNot .i64 (Ac .or .i64 (Ac .andNot .i64 (Ac .or .i64 (Ac .andNot .i64 (Ac .or .i64 (Ac .andNot .i64 (Ac .or .i64 (Ac .or .i64 s 1) 2) 2) 4) 4) 8) 8) 16) 16) 32) 32=Ip s:=by
 have e:∀x b:Int,Ac .andNot .i64 (Ac .or .i64 x b) b=Ac .andNot .i64 x b:=fun x b=>by rw[kM,kM,T3,kA];congr 1;refine BitVec.eq_of_getLsbD_eq fun k hk=> ?_;simp only[BitVec.getLsbD_and,BitVec.getLsbD_or,BitVec.getLsbD_not];cases(LO x).getLsbD k<;>cases(LO b).getLsbD k<;>simp
 rw[e,e,e,e,e];rfl
def asz{m:Ms}(hk:(ab p.l m.pc).k=5)(hn:(k:Int)=fO (ab p.l m.pc).imm){r0 r1 r2 r3 r4 r5 r6 r7 r8 r9 r10:Int}(hr:m.rg=[r0,r1,r2,r3,r4,r5,r6,r7,r8,r9,r10]):
  (⟨[gt m.an 0 0,0,0,0,0,0,r6,r7,r8,r9,r10],Ac .andNot .i64 (Ac .or .i64 (Ac .andNot .i64 (Ac .or .i64 (Ac .andNot .i64 (Ac .or .i64 (Ac .andNot .i64 (Ac .or .i64 (Ac .andNot .i64 (Ac .or .i64 (Ac .or .i64 m.st 1) 2) 2) 4) 4) 8) 8) 16) 16) 32) 32,Ac .add .i64 m.pc 1,m.an.drop (1:Int).toNat,m.tr++[[(ab p.l m.pc).imm,gt m.an 0 0,((CU m.rg (k:Int)).length:Int),gt (CU m.rg (k:Int)) 0 0,gt (CU m.rg (k:Int)) 1 0,gt (CU m.rg (k:Int)) 2 0,gt (CU m.rg (k:Int)) 3 0,gt (CU m.rg (k:Int)) 4 0]],m.cx,m.fm⟩:Ms)=DF p m:=by
 rw[auX hk,at8,hn];have h5:=fN (ab p.l m.pc).imm;have hl:((CU m.rg (fO (ab p.l m.pc).imm)).length:Int)=ZG .i64 ((CU m.rg (fO (ab p.l m.pc).imm)).length:Int):=by
  have:(CU m.rg (fO (ab p.l m.pc).imm)).length<=11:=by unfold CU;rw[List.length_drop,YZ,List.length_map,hr];exact dd (Nat.sub_le _ _) (Nat.min_le_right _ _)
  rw[GE Fn Fn]
 unfold Ms.call atS;rw[<-hl,hr];rfl
def LE(p:Prog)(a b:Sta):Prop:=∀m:Ms,WM p m->SH a m->SH b m
def LE.refl(p:Prog)(a:Sta):LE p a a:=fun _ _ h=>h
def LE.trans{a b c:Sta}(h:LE p a b)(h':LE p b c):LE p a c:=fun m w s=>h' m w (h m w s)
def ajH(w:Bool)(a b:Sta){j:Nat}(hj:j<=10):Ao (Mx w a b) j=cP w (Ao a j) (Ao b j):=by have:j=0\/j=1\/j=2\/j=3\/j=4\/j=5\/j=6\/j=7\/j=8\/j=9\/j=10:=Fn;rcases this with rfl|rfl|rfl|rfl|rfl|rfl|rfl|rfl|rfl|rfl|rfl<;>rfl
def ae4(w:Bool)(a b:Sta)(hk:k<=7):nu (Mx w a b) k=cP w (nu a k) (nu b k):=by have:k=0\/k=1\/k=2\/k=3\/k=4\/k=5\/k=6\/k=7:=Fn;rcases this with rfl|rfl|rfl|rfl|rfl|rfl|rfl|rfl<;>rfl
def ajV{m:Ms}(W:WM p m)(hk:k<=7):0<=be (dC m) k/\be (dC m) k<=18446744073709551615:=by rw[aeS _ hk];have:=xQ (sS W) 8 (8*(k:Int));have h9:(256:Int) ^ 8=18446744073709551616:=ST;omega
def SH.join{a b:Sta}{m:Ms}(W:WM p m)(ga:GA a)(gb:GA b)(h:SH a m\/SH b m):SH (iO w a b) m:=by
 rw[(oh ga.may gb.may).1];refine(ia _ _).2 ⟨by rw[<-(oh (w:=w) ga.may gb.may).1];exact(ga.join gb w).may,fun j hj=> ?_,fun k hk=> ?_⟩
 .rw[ajH w a b hj];have A:=ga.nth (d:=(j:Int)) Fn Fn;have B:=gb.nth (d:=(j:Int)) Fn Fn;exact akz A.wf B.wf A.ok B.ok (W.r _) (h.imp (fun h=>((ia _ _).1 h).2.1 j hj) (fun h=>((ia _ _).1 h).2.1 j hj))
 .rw[ae4 w a b hk];have A:=ga.slot (k:Int);have B:=gb.slot (k:Int);exact rD A.wf B.wf A.ok B.ok (ajV W hk) (h.imp (fun h=>((ia _ _).1 h).2.2 k hk) (fun h=>((ia _ _).1 h).2.2 k hk))
def LE.l{a b:Sta}(ga:GA a)(gb:GA b)(w:Bool):LE p a (iO w a b):=fun _ W h=>SH.join W ga gb (.inl h)
def LE.r{a b:Sta}(ga:GA a)(gb:GA b)(w:Bool):LE p b (iO w a b):=fun _ W h=>SH.join W ga gb (.inr h)
def amg(s:Sta):jc [BI s] 0=s:=by kernel_rfl
def aj0{a b:Sta}(h:BI a=BI b):a=b:=by rw[<-amg a,<-amg b,h]
def DL(p:Prog)(r:VR):Prop:=∀k:Nat,k<64->gt r.T k 0=1->tb r.w k=ZC->∀q∈(bD p k (aq r.T k)).1,LE p q.2 (aq r.T q.1)
section
variable {p:Prog}{r:VR}{q:Int×Sta}
def ash(hv:VJ p r)(hl:p.l.length<=64)(hq:q.1=(n:Int))(hn:n<p.l.length)(hg:GA q.2):LE p q.2 (aq (AQ r q).T n)/\∀k:Nat,k<64->gt r.T k 0=1->LE p (aq r.T k) (aq (AQ r q).T k):=by
 have hT:n<r.T.length:=by rw[hv.vi.T];omega
 unfold AQ;rw[hq,cY];by_cases h1:gt r.T n 0=1
 .rw[ae h1];have gn:=hv.ok n Fn h1;have ej:Ju r q=iO (decide (8<gt r.g q.1 0)) (aq r.T n) q.2:=by unfold Ju;rw[hq]
  by_cases h2:BI (Ju r q)=BI (aq r.T n)
  .rw[ae h2];refine⟨?_,fun k _ _=>LE.refl _ _⟩;have e:=aj0 h2;rw[<-e,ej];exact LE.r gn hg _
  .rw[aa h2];refine⟨?_,fun k hk hs=> ?_⟩
   .rw[jL _ hT,ej];exact LE.r gn hg _
   .by_cases e:n=k
    .subst e;rw[jL _ hT,ej];exact LE.l gn hg _
    .rw[dT (T':=r.T) (pB e)];exact LE.refl _ _
 .rw[aa h1];refine⟨by rw[jL _ hT];exact LE.refl _ _,fun k hk hs=> ?_⟩;by_cases e:n=k
  .subst e;exact ai hs h1
  .rw[dT (T':=r.T) (pB e)];exact LE.refl _ _
end
def agY{p:Prog}(hl:p.l.length<=64):∀(l:List (Int×Sta)) {r:VR},VJ p r->(∀q∈l,(0<=q.1/\q.1<(p.l.length:Int))/\GA q.2)->
  (∀k:Nat,k<64->gt r.T k 0=1->LE p (aq r.T k) (aq (l.foldl AQ r).T k))/\∀q∈l,LE p q.2 (aq (l.foldl AQ r).T q.1)
 |[],r,h,_=>⟨fun k _ _=>LE.refl _ _,fun q hq=>by cases hq⟩
 |q::l,r,h,hq=>by
   obtain⟨hr,hg⟩:=hq q bW;obtain⟨n,hn⟩:=cj hr.1;have hT:n<r.T.length:=by rw[h.vi.T];omega
   have h1:=amG h hl hn Fn hg;obtain⟨a,b⟩:=agY hl l h1 (fun x hx=>hq x (cR _ hx));obtain⟨c,d⟩:=ash h hl hn Fn hg;refine⟨fun k hk hs=>(d k hk hs).trans (a k hk (mE hn hT k (.inl hs))),fun x hx=> ?_⟩;rcases List.mem_cons.1 hx with rfl|hx
   .rw[hn];exact c.trans (a n Fn (mE hn hT n (.inr rfl)))
   .exact b x hx
def ad8(hl:p.l.length<=maxLen)(hk:(aY p).2=0){r:VR}(h:VJ p r)(hn:DN p r)(hd:DL p r)(hw:r.w≠0)(he:(bD p (CO r.w) (aq r.T (CO r.w))).2=0):
  DL p ((bD p (CO r.w) (aq r.T (CO r.w))).1.foldl AQ (jp r))/\LE p (aq r.T (0:Nat)) (aq ((bD p (CO r.w) (aq r.T (CO r.w))).1.foldl AQ (jp r)).T (0:Nat)):=by
 obtain⟨⟨q1,q2,q3⟩,-,-⟩:=cL hl hk;obtain⟨Oo,-⟩:=h.vi.next hw;obtain⟨k,e1,e2,e3,e4⟩:=uw (by have:=h.vi.w;omega) h.vi.w.2;obtain⟨k5,k6⟩:=h.vi.on k e2 e3;rw[e1]at he ⊢;have h2:VJ p (jp r):=⟨Oo,h.s0,h.f,h.ok,h.lt⟩
 have hx:A2 (ab p.l k)=ZB:=kT hl hk (Int.natCast_nonneg k) Fn;have hg:=(h.ok k e2 k6).sides hx;have A8:∀q∈(bD p k (aq r.T k)).1,(0<=q.1/\q.1<(p.l.length:Int))/\GA q.2:=fun q hq=>⟨mo hl hk k5 q hq,hg q hq⟩
 obtain⟨a,b,c,d⟩:=tZ q3 (bD p k (aq r.T k)).1 h2 A8;obtain⟨u,v⟩:=agY q3 (bD p k (aq r.T k)).1 h2 A8;refine⟨fun j hj hs hb=> ?_,u 0 ST h.s0⟩;rcases b j hj with⟨b1,b2⟩|b1
 .have eS:aq ((bD p k (aq r.T k)).1.foldl AQ (jp r)).T (j:Int)=aq r.T j:=dT b1;have JO:gt r.T j 0=1:=(gV b1 0).symm.trans hs;rw[eS];by_cases hjk:j=k
  .subst hjk;exact v
  .have UR:tb r.w j=ZC:=by
    have:tb (jp r).w j=(tb r.w j &&!(j==k)):=e4 j hj;rw[b2,this]at hb;simpa[hjk]using hb
   intro q hq;have g1:=hd j hj JO UR q hq;have g2:=(hn j hj JO UR).2 q hq;obtain⟨m,hm⟩:=cj (mo hl hk (h.lt j hj JO) q hq).1;have As:=(mo hl hk (h.lt j hj JO) q hq).2;rw[hm]at g1 g2 ⊢;exact g1.trans (u m Fn g2)
 .rw[b1]at hb;cases hb
def at6:DL p vini:=fun k hk hs hb=>by obtain rfl:=UK k hk hs;rw[show tb vini.w 0=ZB by decide +kernel]at hb;cases hb
def ajE(hl:p.l.length<=maxLen)(hk:(aY p).2=0):∀(n:Nat) (last:Int) (r:VR),VJ p r->DN p r->DL p r->(jq p n last r).2.2.2=0->∃r',jq p n last r=me p r'.T/\VJ p r'/\DN p r'/\DL p r'/\r'.w=0/\LE p (aq r.T (0:Nat)) (aq r'.T (0:Nat)):=by
 intro n
 induction n with
 |zero=>
   intro last r hV hD hL h;by_cases hw:r.w=0
   .exact⟨r,iy hw,hV,hD,hL,hw,LE.refl _ _⟩
   .rw[lD hw]at h;cases h
 |succ n ih=>
   intro last r hV hD hL h;by_cases hw:r.w=0
   .exact⟨r,iy hw,hV,hD,hL,hw,LE.refl _ _⟩
   .by_cases he:(bD p (CO r.w) (aq r.T (CO r.w))).2=0
    .rw[nn hw he]at h ⊢;obtain⟨a,b⟩:=arK hl hk hV hD hw he;obtain⟨c,d⟩:=ad8 hl hk hV hD hL hw he;obtain⟨r',g1,g2,g3,g4,g5,g6⟩:=ih _ _ a b c h;exact⟨r',g1,g2,g3,g4,g5,d.trans g6⟩
    .rw[px hw he]at h;exact ai h he
structure GM(p:Prog)(m:Ms):Prop where
 wm:WM p m
 p0:0<=m.pc
 p1:m.pc<(p.l.length:Int)
 sn:gt (AC p).1 m.pc 0=1
 sh:SH (jc (AC p).2.1 m.pc) m
def akj(cx an:LL):SH jN (GC cx an):=by show Ar jN (dC (GC [] []))=ZB;decide +kernel
def ajv(hc:RowsIn [some .u8] cx)(ha:RowsIn [some .u64] an)(hl:(cx.length:Int)=p.ctx):WM p (GC cx an):=⟨rfl,fun v hv=>(by decide:∀v∈[(0:Int),2097152,0,0,0,0,0,0,0,0,3145792],0<=v/\v<=18446744073709551615) v hv,⟨1026,rfl,by decide⟩,ha,hc,hl,agH 64 ST,List.length_replicate⟩
section
variable {p:Prog}(hl:p.l.length<=maxLen)(h:(AC p).2.2.2=0)
include hl h
theorem xV:(aY p).2=0/\∃r,AC p=me p r.T/\VJ p r/\DN p r/\DL p r/\r.w=0/\LE p jN (aq r.T (0:Nat)):=by
 by_cases hk:(aY p).2=0
 .obtain⟨⟨q1,q2,q3⟩,-,-⟩:=cL hl hk;have e:AC p=jq p 2000 0 vini:=by unfold AC;rw[ae hk]
  rw[e]at h ⊢;obtain⟨r,g1,g2,g3,g4,g5,g6⟩:=ajE hl hk _ _ _ (arM q2) at5 at6 h;rw[show aq vini.T (0:Nat)=jN by kernel_rfl]at g6;exact⟨hk,r,g1,g2,g3,g4,g5,g6⟩
 .unfold AC at h;rw[aa hk]at h;exact ai h hk
theorem als(hc:RowsIn [some .u8] cx)(ha:RowsIn [some .u64] an)(CY:(cx.length:Int)=p.ctx):GM p (GC cx an):=by
 obtain⟨hk,r,e,hV,hD,hL,hw,hF⟩:=xV hl h;obtain⟨⟨q1,q2,q3⟩,-,-⟩:=cL hl hk;have W:=ajv hc ha CY;refine⟨W,Int.le_refl _,by show(0:Int)<_;omega,?_,?_⟩
 .rw[e];exact(qL (k:=0) Fn).2 hV.s0
 .rw[e];show SH (jc (me p r.T).2.1 ((0:Nat):Int)) _;rw[uI (k:=0) Fn hV.s0];exact hF _ W (akj cx an)
theorem ain{m:Ms}(g:GM p m):halt p m≠3/\(halt p m=0->GM p (DF p m)):=by
 obtain⟨hk,r,e,hV,hD,hL,hw,-⟩:=xV hl h;obtain⟨⟨q1,q2,q3⟩,-,-⟩:=cL hl hk;obtain⟨W,p0,p1,sn,sh⟩:=g;obtain⟨k,HN⟩:=cj p0;have D3:k<p.l.length:=Fn;rw[e,HN]at sn sh;have hs:=(qL D3).1 sn;rw[uI D3 hs]at sh;have hb:tb r.w k=ZC:=by rw[hw,Lj]
 obtain⟨d1,d2⟩:=hD k Fn hs hb;have d3:=hL k Fn hs hb;have so:=ao2 (s:=aq r.T k) hl hk W p0 p1 (hV.ok k Fn hs) sh (by rw[HN];exact d1);refine⟨so.1,fun hh=> ?_⟩;obtain⟨w2,q,hq,e1,e2⟩:=so.2 hh;rw[HN]at hq;obtain⟨n0,n1⟩:=asj hl hk p0 p1 hh;obtain⟨n,hn⟩:=cj n0;have RA:(DF p m).pc=(n:Int):=hn;have K1:n<p.l.length:=Fn;have s2:=d2 q hq;have s3:=d3 q hq;rw[e1,RA]at s2 s3;refine⟨w2,by rw[RA];omega,by rw[RA];omega,?_,?_⟩
 .rw[e,RA];exact(qL K1).2 s2
 .rw[e,RA,uI K1 s2];exact s3 _ w2 e2
theorem sA:∀(f:Nat) (m:Ms),GM p m->(exec p f m).1≠3
 |0,m,_=>by show(0:Int)≠3;decide
 |f+1,m,g=>by
   obtain⟨g1,g2⟩:=ain hl h g;unfold exec;by_cases hh:halt p m=0
   .rw[ae hh];exact sA f _ (g2 hh)
   .rw[aa hh];exact g1
theorem pE:∀(f:Nat) (m:Ms),GM p m->∀i:Nat,i<(eH p f m).length->∃m',GM p m'/\(eH p f m)[i]? =some m'.pc/\(mm p f m)[i]? =some (gO m')
 |0,m,_,i,hi=>by cases hi
 |f+1,m,g,i,hi=>by
   obtain⟨g1,g2⟩:=ain hl h g;unfold eH at hi ⊢;unfold mm;cases i with
   |zero=>exact⟨m,g,by simp,by simp⟩
   |succ i=>
     by_cases hh:halt p m=0
     .rw[ae hh]at hi ⊢;rw[ae hh];obtain⟨m',a,b,c⟩:=pE f _ (g2 hh) i XS;exact⟨m',a,by simpa using b,by simpa using c⟩
     .rw[aa hh]at hi;simp at hi
end
def Et(sn st:LL)(i:Int):Bool:=(decide (0<=i)&&decide (i<min (sn.length:Int) (st.length:Int)))&&(gt sn i 0==1)
def H8(sn st:LL)(i:Int):Sta:=if Et sn st i=ZB then jc st i else J2
def GM.at{m:Ms}(g:GM p m)(h:(AC p).2.2.2=0):Et (AC p).1 (AC p).2.1 m.pc=ZB/\H8 (AC p).1 (AC p).2.1 m.pc=jc (AC p).2.1 m.pc:=by
 obtain⟨n1,n2⟩:=zX h;have e:Et (AC p).1 (AC p).2.1 m.pc=ZB:=by unfold Et;have:=g.p0;have:=g.p1;rw[g.sn,dm g.p0,dm Fn];rfl
 exact⟨e,by unfold H8;rw[ae e]⟩
def afp{m:Ms}(h:m.rg.length=11)(hf:m.fm.length=64):gO m=[m.r 0,m.r 1,m.r 2,m.r 3,m.r 4,m.r 5,m.r 6,m.r 7,m.r 8,m.r 9,m.r 10,m.st]++(List.range 64).map fun k:Nat=>gt m.fm (k:Int) 0:=by
 obtain⟨rg,st,pc,an,tr,cx,fm⟩:=m
 match rg,h with
 |[a0,a1,a2,a3,a4,a5,a6,a7,a8,a9,a10],_=>unfold gO;rw[<-ais hf];rfl
open Go.ChangeShapes Go.WideShapes
structure Repo where
 sn:LL
 st:LL
def Repo.eta(a:Repo):(⟨a.sn,a.st⟩:Repo)=a:=rfl
def agV(k:Repo->List Dt->List Dt):List Dt->List Dt
 |.l z0::.l z1::r=>k ⟨z0,z1⟩ r
 |_=>[]
def Repo.ok(a:Repo):Prop:=RowsIn [none] a.sn/\RowsIn EH a.st
def avn:List CK:=[.sl [none] 4,.sl EH 56]
def WV(t:List VK):List VK:=.list [none]::.list EH::t
def aiG(a:Repo)(t:List Dt):List Dt:=.l a.sn::.l a.st::t
def alv{l:List VK}{p:List Dt->Prop}(h:∀a:Repo,Repo.ok a->aS l fun r=>p (aiG a r)):aS (WV l) p:=fun x0 C6 x1 Do=>h ⟨x0,x1⟩ ⟨C6,Do⟩
def agU(k:Repo->List Dt->List Dt)(a:Repo)(t:List Dt):agV k (aiG a t)=k a t:=rfl
def aeu:List (Nat×TI):=[(2,CC),
 (3,CZ),
 (4,EK),
 (29,Uh),
 (30,Ug),
 (32,Uf),
 (38,fY),
 (39,fe),
 (46,ic),
 (48,jr),
 (50,eU),
 (52,rh),
 (53,rb),
 (54,ra),
 (56,vo)]
def ael:∀t i,(t,i)∈aeu->TIok ZF t i:=bl (DS (z:=Ev) ⟨ru,lx⟩<|DS (z:=Dw) ⟨rt,lw⟩ B1) B1 (by kernel_rfl)
def TU:List Dt->Prop
 |[.l x0,.l x1,.z x2]=>let f (r:Repo) (i:Int):Prop:=r.sn.length<=maxLen/\r.st.length<=maxLen;f ⟨x0,x1⟩ x2
 |_=>False
def c_vat:Cd:=⟨8,[.agg avn,.one (.int .i64)],[.agg kSta,.one .bool],agV fun r=>rdZ fun i _=>d_Sta (H8 r.sn r.st i) [.z (AD (Et r.sn r.st i))],TU⟩
def WY:Tr:=
(.br (.lt (.w 2) (.p 0))
(.u (.zr 171 (.j (.tt ZC) .nil)))
(.br (.lt (.w 2) (.mn (.len (.g 0)) (.len (.g 1))))
(.br (.lt (.w 2) (.len (.g 0)))
(.br (.getb (.g 0) (.w 2) 0)
(.br (.lt (.w 2) (.len (.g 1)))
(.u (.gs (.g 1) (.w 2) 0 171 (.j (.tt ZB) .nil)))
.panic)
(.u (.zr 171 (.j (.tt ZC) .nil))))
.panic)
(.u (.zr 171 (.j (.tt ZC) .nil)))))
def ar9:cg aeu (FV 0 []) [] [(999999,[])] [] 200 f8 c_vat.a c_vat.r (tp c_vat.r) (WV [.int .i64]) WY:=E4 (by kernel_rfl)
def awd(U:Env)(l i t:E):(E.gs l i 0 171 t).D U=d_Sta (jc (l.R U) (i.I U)) (t.D U):=by kernel_rfl
def WA(U:Env)(t:E):(E.zr 171 t).D U=d_Sta J2 (t.D U):=by kernel_rfl
def auu(r:Repo)(i:Int):c_vat.F (aiG r [.z i])=d_Sta (H8 r.sn r.st i) [.z (AD (Et r.sn r.st i))]:=by simp only[c_vat,agU,rdZ]
def avd:c_vat.Ok ZF:=
 GD (hl:=.inr (.inl ⟨(fun xs (h:TU xs) L hL=>by unfold TU at h;split at h<;>first|exact h.elim|(simp at hL;rcases hL with rfl|rfl;exact h.1;exact h.2)),rfl⟩)) WY (WV [.int .i64]) ael AI func8 EZ ar9<|alv fun r hr=>fun i hi hp U g=>by
 rw[auu];have g':Dt.l (U.l 0)::.l (U.l 1)::[.z (U.i 2)]=.l r.sn::.l r.st::[.z i]:=g;simp only[Be,Dt.z.injEq,Dt.l.injEq,and_true]at g';obtain⟨g0,g1,g2⟩:=g';have no:Et r.sn r.st i=ZC->(E.zr 171 (.j (.tt ZC) .nil)).D U=d_Sta (H8 r.sn r.st i) [.z (AD (Et r.sn r.st i))]:=fun h=>by unfold H8;rw[h,aa (by simp),WA];rfl
 unfold WY;refine⟨fun c=>no ?_,fun c=>⟨fun c1=>⟨fun _=>⟨fun c2=>⟨fun _=> ?_,fun c3=> ?_⟩,fun c2=>no ?_⟩,fun c3=> ?_⟩,fun c1=>no ?_⟩⟩
 all_goals try simp only[E.B,E.I,E.R,g0,g1,g2]at c
 all_goals try simp only[E.B,E.I,E.R,g0,g1,g2]at c1
 all_goals try simp only[E.B,E.I,E.R,g0,g1,g2]at c2
 all_goals try simp only[E.B,E.I,E.R,g0,g1,g2]at c3
 .unfold Et;rw[ff (by have:=Ah c;omega)];rfl
 .have h:Et r.sn r.st i=ZB:=by
   unfold Et;rw[dm (by have:=Ab c;omega),c1,c2];rfl
  unfold H8;rw[h,ae rfl];show(E.gs (.g 1) (.w 2) 0 171 (.j (.tt ZB) .nil)).D U=_;rw[awd,show(E.g 1).R U=r.st from g1,show(E.w 2).I U=i from g2];rfl
 .have:=Ah c1;have:=Ab c3;omega
 .unfold Et;rw[c2,au]
 .have:=Ah c1;have:=Ab c3;omega
 .unfold Et;rw[c1,au];rfl
def Da(U:Env)(n:Nat):Ty:=⟨U.i n,U.i (n+1),U.i (n+2),U.i (n+3),U.i (n+4),U.i (n+5),U.i (n+6),U.i (n+7),U.i (n+8)⟩
def Du(U:Env)(n:Nat):Sta:=⟨Da U n,Da U (n+9),Da U (n+18),Da U (n+27),Da U (n+36),Da U (n+45),Da U (n+54),Da U (n+63),Da U (n+72),Da U (n+81),Da U (n+90),Da U (n+99),Da U (n+108),Da U (n+117),Da U (n+126),Da U (n+135),Da U (n+144),Da U (n+153),Da U (n+162)⟩
section
variable (U:Env)
def arA(n:Nat)(t:E):(E.vs n 171 t).D U=d_Sta (Du U n) (t.D U):=by kernel_rfl
def ary(n:Nat):(E.vs n 171 .nil).L U=BI (Du U n):=by kernel_rfl
def UJ(l i t:E):(E.gs l i 1 171 t).D U=d_Sta (aq (l.R U) (i.I U)) (t.D U):=by kernel_rfl
def auo(l i:E):(E.gs l i 1 171 .nil).L U=BI (aq (l.R U) (i.I U)):=by kernel_rfl
def auz(n:Nat)(t:E):(E.vs n 9 t).D U=d_Ty (Da U n) (t.D U):=by kernel_rfl
def QN(e l i t:E):(E.tg e l i 1 9 t).D U=d_Ty (Ao (aq (l.R U) (i.I U)) (e.I U)) (t.D U):=by kernel_rfl
def arB(e l i t:E)(m:Nat):(E.rg e (E.vs m 9 .nil) (E.gs l i 1 99 .nil) (E.gs l i 100 72 t)).D U=d_Sta (BX (aq (l.R U) (i.I U)) (e.I U) (Da U m)) (t.D U):=by kernel_rfl
def awc(e t:E)(m n:Nat):(E.rg e (E.vs m 9 .nil) (E.vs n 99 .nil) (E.vs (n+99) 72 t)).D U=d_Sta (BX (Du U n) (e.I U) (Da U m)) (t.D U):=by kernel_rfl
def av8(e:E)(m n:Nat):(E.rg e (E.vs m 9 .nil) (E.vs n 99 .nil) (E.vs (n+99) 72 .nil)).L U=BI (BX (Du U n) (e.I U) (Da U m)):=by kernel_rfl
def auA(e l i t:E)(m k:Nat):(E.rg e (E.vs m 9 .nil) (E.rg e (E.vs k 9 .nil) (E.gs l i 1 99 .nil) .nil) (E.gs l i 100 72 t)).D U=d_Sta (BX (BX (aq (l.R U) (i.I U)) (e.I U) (Da U k)) (e.I U) (Da U m)) (t.D U):=by kernel_rfl
def auD(l i:E)(n:Nat):(E.vs n 9 (.zr 45 (.gs l i 55 117 .nil))).D U=d_Sta {aq (l.R U) (i.I U)with r0:=Da U n,r1:=tnil,r2:=tnil,r3:=tnil,r4:=tnil,r5:=tnil} []:=by kernel_rfl
end
def CD(f:Nat->Int)(n:Nat):Ty:=⟨f n,f (n+1),f (n+2),f (n+3),f (n+4),f (n+5),f (n+6),f (n+7),f (n+8)⟩
def Qw(f:Nat->Int):Sta:=⟨CD f 0,CD f 9,CD f 18,CD f 27,CD f 36,CD f 45,CD f 54,CD f 63,CD f 72,CD f 81,CD f 90,CD f 99,CD f 108,CD f 117,CD f 126,CD f 135,CD f 144,CD f 153,CD f 162⟩
def xK(m:Nat)(f:Nat->Int):Nat->Int:=fun i=>bif Nat.blt i m then f i else 0
def acu{f g:Nat->Int}(h:∀i,i<m->f i=g i):xK m f=xK m g:=by
 funext i;unfold xK;cases hb:Nat.blt i m with
 |false=>rfl
 |true=>exact h i (by simpa[Nat.blt_eq]using hb)
def pC(f:Nat->Int):Qw (xK 171 f)=Qw f:=by kernel_rfl
def rC(f:Nat->Int):CD (xK 9 f) 0=CD f 0:=by kernel_rfl
def aav{f g:Nat->Int}(h:∀m,m<171->f m=g m):Qw f=Qw g:=by rw[<-pC f,<-pC g,acu h]
def aeD{f g:Nat->Int}(h:∀m,m<9->f m=g m):CD f 0=CD g 0:=by rw[<-rC f,<-rC g,acu h]
def yn(S:Sta)(r:List Dt):Qw (fun m=>dI (d_Sta S r) m)=S:=by kernel_rfl
def WO(S:Ty)(r:List Dt):CD (fun m=>dI (d_Ty S r) m) 0=S:=by kernel_rfl
def aiF{a b:Sta}{r r':List Dt}(h:d_Sta a r=d_Sta b r'):a=b:=by rw[<-yn a r,<-yn b r',h]
def alJ{a b:Ty}{r r':List Dt}(h:d_Ty a r=d_Ty b r'):a=b:=by rw[<-WO a r,<-WO b r',h]
def JV:List CK->Nat->Bool
 |.int _::_,0=>ZB
 |.int _::ks,m+1=>JV ks m
 |_,_=>ZC
def qF{U:Env}{ds:List Dt}{v0:Nat}:∀(ks:List CK) (n m:Nat),JV ks m=ZB->eqs U ds v0 n ks->U.i (v0+(n+m))=dI ds (n+m)
 |.int k::ks,n,0,_,h=>h.1
 |.int k::ks,n,m+1,hk,h=>by have:=qF ks (n+1) m hk h.2;rw[show n+(m+1)=n+1+m by omega];exact this
def uz:∀(a b:List CK) (m:Nat),JV a m=ZB->JV (a++b) m=ZB
 |.int _::_,_,0,_=>rfl
 |.int _::a,b,m+1,h=>uz a b m h
def asP:∀m,m<171->JV kSta m=ZB:=by decide +kernel
def asO:∀m,m<9->JV kTy m=ZB:=by decide +kernel
def UD{r:List Dt}(h:eqs U (d_Sta S r) v0 0 (kSta++ks)):Du U v0=S:=by
 have e:=aav (f:=fun m=>U.i (v0+m)) (g:=fun m=>dI (d_Sta S r) m) (fun m hm=>by
  have:=qF _ 0 m (uz _ ks m (asP m hm)) h;rw[bP]at this;exact this)
 rw[yn]at e;exact e
def atU{S:Ty}{r:List Dt}(h:eqs U (d_Ty S r) v0 0 (kTy++ks)):Da U v0=S:=by
 have e:=aeD (f:=fun m=>U.i (v0+m)) (g:=fun m=>dI (d_Ty S r) m) (fun m hm=>by
  have:=qF _ 0 m (uz _ ks m (asO m hm)) h;rw[bP]at this;exact this)
 rw[WO]at e;exact e
def atV(h:eqs U (d_Sta S [.z e]) v0 0 (kSta++[.int .i64])):U.i (v0+171)=e:=by have:=qF _ 0 171 XZ h;exact this
def atT{S:Ty}(h:eqs U (d_Ty S [.z e]) v0 0 (kTy++[.int .i64])):U.i (v0+9)=e:=by have:=qF _ 0 9 XZ h;exact this
def atX{r:List Dt}(h:eqs U (d_Sta S r) v0 0 kSta):Du U v0=S:=UD (ks:=[]) (by rw[ZP];exact h)
def xv{S:Ty}{r:List Dt}(h:eqs U (d_Ty S r) v0 0 kTy):Da U v0=S:=atU (ks:=[]) (by rw[ZP];exact h)
def TC{U':Env}(h:Ag n U U')(hm:m+9<=n):Da U' m=Da U m:=by have e:=aeD (f:=fun i=>U'.i (m+i)) (g:=fun i=>U.i (m+i)) (fun i hi=>((h (m+i) Fn).1).symm);exact e
def aeY{U':Env}(h:Ag n U U')(hm:m+171<=n):Du U' m=Du U m:=by have e:=aav (f:=fun i=>U'.i (m+i)) (g:=fun i=>U.i (m+i)) (fun i hi=>((h (m+i) Fn).1).symm);exact e
section
variable {sp:Spec}{G:Env->E->Prop}{U:Env}{I:Nat->List Dt->Prop}
def aD{t:Tr}(xs:List Dt)(hD:args.D U=xs)(hp:sp.pre key xs)(h:eqs U (sp.F key xs) v0 0 ks->t.asks sp G U I):(Tr.call key ks args v0 t).asks sp G U I:=by subst hD;exact⟨hp,h⟩
def bc{lv:Nat}{P:List Dt->Prop}(h:P (args.D U)):(Tr.next lv args).asks sp G U (H7 I lv P):=by show H7 I lv P lv _;rw[oI];exact h
def aho{lv lv':Nat}{P:List Dt->Prop}(hn:lv≠lv')(h:(Tr.next lv args).asks sp G U I):(Tr.next lv args).asks sp G U (H7 I lv' P):=by show H7 I lv' P lv _;rw[py _ _ hn];exact h
end
def auB(U:Env)(l i t:E):(E.ins l i t).D U=d_Ins (ab (l.R U) (i.I U)) (t.D U):=by kernel_rfl
def EV(x:Ins):LL:=[[x.k,x.op,x.w,x.sz,AD x.br,x.d,x.s,x.off,x.imm]]
def arx(U:Env)(l i:E):(E.lq .ln (.ins l i .nil)).R U=EV (ab (l.R U) (i.I U)):=by kernel_rfl
def ah2(x:Ins):ab (EV x) 0=x:=by show(⟨x.k,x.op,x.w,x.sz,AD x.br==1,x.d,x.s,x.off,x.imm⟩:Ins)=x;rw[b2i_one]
def LJ(w n:E):E:=.f .or .u64 w (.f .shl .u64 (.p 1) n)
def O8(key:Nat)(n:E)(S:E->E)(w T g:E)(v:Nat)(k:E->E->E->Tr):Tr:=
 .call key (kSta++[.int .i64]) (.gs T n 1 171 (S .nil)) v
  (.br (.leq (.lq .ln (.vs v 171 .nil)) (.lq .ln (.gs T n 1 171 .nil)))
   (k w T g)
   (k (LJ w n) (.lput T n (.j (.tt ZB) (.vs v 171 .nil))) (.lset g n 0 (.f .add .i64 (.get g n 0) (.p 1)))))
def FP(n:E)(S:E->E)(w T g:E)(v:Nat)(k:E->E->E->Tr):Tr:=
 .br (.lt n (.p 0)) .panic
  (.br (.lt n (.p 64))
   (.br (.lt n (.len T))
    (.br (.getb T n 0)
     (.br (.lt n (.len g))
      (.br (.lt (.p 8) (.get g n 0)) (O8 17 n S w T g v k) (O8 16 n S w T g v k))
      (.stuck 54))
     (k (LJ w n) (.lput T n (.j (.tt ZB) (S .nil))) g))
    (.stuck 270))
   .panic)
section
variable {sp:Spec}{G:Env->E->Prop}{U:Env}{I:Nat->List Dt->Prop}{p:Prog}{r:VR}{n w T g:E}{S:E->E}{s:Sta}{v:Nat}{k:E->E->E->Tr}
def wK{b:Bool}(hF:∀a c:Sta,sp.F key (d_Sta a (d_Sta c []))=d_Sta (iO b a c) [.z (FT a c)])(hP:∀xs,sp.pre key xs)(hw:w.I U=r.w)(hT:T.R U=r.T)(hg:g.R U=r.g){m:Int}(hn:n.I U=m)(hS:∀t:E,(S t).D U=d_Sta s (t.D U))(h1:gt r.T m 0=1)(h8:decide (8<gt r.g m 0)=b)(hk:∀w' T' g':E,w'.I U=(AQ r (m,s)).w->T'.R U=(AQ r (m,s)).T->g'.R U=(AQ r (m,s)).g->(k w' T' g').asks sp G U I):(O8 key n S w T g v k).asks sp G U I:=by
 refine⟨hP _,fun e=> ?_⟩;have e0:(E.gs T n 1 171 (S .nil)).D U=d_Sta (aq r.T m) (d_Sta s []):=by rw[UJ,hT,hn,hS];rfl
 rw[e0,hF]at e;have eS:=UD e;have ej:iO b (aq r.T m) s=Ju r (m,s):=by unfold Ju;rw[h8]
 rw[ej]at eS;have L1:(E.vs v 171 .nil).L U=BI (Ju r (m,s)):=by rw[ary,eS]
 have L2:(E.gs T n 1 171 .nil).L U=BI (aq r.T m):=by rw[auo,hT,hn]
 have hB:(E.leq (.lq .ln (.vs v 171 .nil)) (.lq .ln (.gs T n 1 171 .nil))).B U=ZB↔BI (Ju r (m,s))=BI (aq r.T m):=by simp only[E.B,E.R,List.nil_append,L1,L2,cQ,Be,and_true]
 refine⟨fun c=> ?_,fun c=> ?_⟩
 .have hv:AQ r (m,s)=r:=by unfold AQ;rw[ae h1,ae (hB.1 c)]
  exact hk _ _ _ (by rw[hv];exact hw) (by rw[hv];exact hT) (by rw[hv];exact hg)
 .have hc:¬BI (Ju r (m,s))=BI (aq r.T m):=fun e=>by rw[hB.2 e]at c;cases c
  have hv:AQ r (m,s)=⟨Hn r.w m,r.T.set m.toNat (1::BI (Ju r (m,s))),st r.g m 0 (Ac .add .i64 (gt r.g m 0) 1)⟩:=by unfold AQ;rw[ae h1,aa hc]
  refine hk _ _ _ (by rw[hv];simp only[LJ,E.I,hw,hn];rfl) ?_ ?_
  .rw[hv];simp only[E.R,E.L,E.B,hT,hn,L1];rfl
  .rw[hv];simp only[E.R,E.I,hg,hn]
def wJ(hF:∀a c:Sta,sp.F 17 (d_Sta a (d_Sta c []))=d_Sta (iO ZB a c) [.z (FT a c)])(Bx:∀a c:Sta,sp.F 16 (d_Sta a (d_Sta c []))=d_Sta (iO ZC a c) [.z (FT a c)])(hP:∀xs,sp.pre 17 xs)(hP':∀xs,sp.pre 16 xs)(h:VI p r)(hw:w.I U=r.w)(hT:T.R U=r.T)(hg:g.R U=r.g){m:Int}(hn:n.I U=m)(hm:0<=m/\m<(p.l.length:Int))(hl:p.l.length<=64)(hS:∀t:E,(S t).D U=d_Sta s (t.D U))(hL:(S .nil).L U=BI s)(hk:∀w' T' g':E,w'.I U=(AQ r (m,s)).w->T'.R U=(AQ r (m,s)).T->g'.R U=(AQ r (m,s)).g->(k w' T' g').asks sp G U I):(FP n S w T g v k).asks sp G U I:=by
 have lt:∀z:Int,(E.lt n (.p z)).B U=decide (m<z):=fun z=>by simp only[E.B,E.I,hn]
 refine⟨fun c=> ?_,fun _=>⟨fun _=>⟨fun _=>⟨fun c1=>⟨fun _=>⟨fun c2=> ?_,fun c2=> ?_⟩,fun c=> ?_⟩,fun c1=> ?_⟩,fun c=> ?_⟩,fun c=> ?_⟩⟩
 .rw[lt]at c;have:=Ah c;exact ai hm.1 Fn
 .have h1:gt r.T m 0=1:=by
   simp only[E.B,hT,hn,cQ]at c1;exact c1
  have h8:decide (8<gt r.g m 0)=ZB:=by simp only[E.B,E.I,hg,hn]at c2;exact c2
  exact wK hF hP hw hT hg hn hS h1 h8 hk
 .have h1:gt r.T m 0=1:=by
   simp only[E.B,hT,hn,cQ]at c1;exact c1
  have h8:decide (8<gt r.g m 0)=ZC:=by simp only[E.B,E.I,hg,hn]at c2;exact c2
  exact wK Bx hP' hw hT hg hn hS h1 h8 hk
 .simp only[E.B,E.I,hg,hn,h.g]at c;have:=Ab c;omega
 .have h1:¬gt r.T m 0=1:=by
   simp only[E.B,hT,hn]at c1;intro e;rw[e]at c1;cases c1
  have hv:AQ r (m,s)=⟨Hn r.w m,r.T.set m.toNat (1::BI s),r.g⟩:=by unfold AQ;rw[aa h1]
  refine hk _ _ _ (by rw[hv];simp only[LJ,E.I,hw,hn];rfl) ?_ (by rw[hv];exact hg);rw[hv];simp only[E.R,E.L,E.B,hT,hn,hL];rfl
 .simp only[E.B,E.I,hT,hn,h.T]at c;have:=Ab c;omega
 .rw[lt]at c;have:=Ab c;omega
end
def oq{p:Prop}(k:q2)(h:p->q=q2:=by intro e;(try simp only[e,Ins.eta,Prog.eta,aj,-eq_self]);rfl):p->q:=fun e=>(h e).symm▸k
def aeA:List (Nat×TI):=[(3,CZ),
 (4,EK),
 (22,vq),
 (24,vp),
 (38,fY),
 (66,⟨ZB,9,(zN 9 220090000),[(0,38),(1,38),(2,38),(3,38),(4,4),(5,38),(6,38),(7,3),(8,3)],none,none,ZC,ZC,none,24,ZC,none,ZC,0⟩)]
def vm:∀t i,(t,i)∈aeA->TIok ZF t i:=bl B1 B1 (by kernel_rfl)
def c_vrd:Cd:=⟨31,[.agg kIns],[.one (.int .i64)],rd_Ins fun x _=>[.z (Dy x)],T0⟩
def Up:Tr:=(.u (.cons (.f .shl .i64 (.p 1) (.w 6)) .nil))
def an5:Tr:=(.u (.cons (.f .or .i64 (.f .shl .i64 (.p 1) (.w 5)) (.p 0)) .nil))
def Qn:Tr:=(.u (.cons (.f .or .i64 (.f .shl .i64 (.p 1) (.w 5)) (.f .shl .i64 (.p 1) (.w 6))) .nil))
def an6:Tr:=(.br (.eq (.w 0) (.p 5))
(.call 1 [.int .i64] (.cons (.w 8) .nil) 10
(.br (.lt (.f .add .i64 (.w 10) (.p 1)) (.p 0))
.panic
(.u (.cons (.f .sub .i64 (.f .shl .i64 (.p 1) (.f .add .i64 (.w 10) (.p 1))) (.p 2)) .nil))))
(.br (.eq (.w 0) (.p 6))
(.u (.cons (.p 1) .nil))
(.u (.cons (.p 0) .nil))))
def amn:Tr:=
(.call 0 [.bool] (.vs 0 4 (.j (.s 4) (.vs 5 4 .nil))) 9
(.br (.s 9)
(.br (.lt (.w 5) (.p 0))
.panic
(.br (.lt (.w 6) (.p 0))
.panic
(.br (.s 4)
(.br (.eq (.w 0) (.p 0))
(.br (.eq (.w 1) (.p 11))
 Up
 Qn)
(.br (.eq (.w 0) (.p 1))
 Up
(.br (.eq (.w 0) (.p 2))
 Qn
(.br (.eq (.w 0) (.p 3))
 Qn
 an6))))
(.br (.eq (.w 0) (.p 0))
(.br (.eq (.w 1) (.p 11))
(.u (.cons (.p 0) .nil))
 an5)
(.br (.eq (.w 0) (.p 1))
 Up
(.br (.eq (.w 0) (.p 2))
 Qn
(.br (.eq (.w 0) (.p 3))
 an5
 an6)))))))
(.u (.cons (.p 0) .nil))))
def avb:c_vrd.Ok ZF:=
 AU amn (v_Ins []) vm (Am amX<|Am aqI AI) func31<|iW fun x hx hp U g=>by
 simp only[eB,AA,ZD]at g;simp only[amn,an6,Qn,an5,Up,c_nmay,c_iargs,c_vrd,eB,Ai,ZH,ZD,-eq_self,Ins.eta,Prog.eta,aj,g];refine oq ?_;apply aI<;>intro c0;apply aI<;>intro c1
 .exact XH
 apply aI<;>intro c2
 .exact XH
 apply aI<;>intro c3;apply aI<;>intro c4;apply aI<;>intro c5
 .exact Xv
 .exact Xv
 apply aI<;>intro c6
 .exact Xv
 apply aI<;>intro c7
 .exact Xv
 apply aI<;>intro c8
 .exact Xv
 apply aI<;>intro c9;refine oq ?_;apply aI<;>intro BF
 .exact XH
 .exact Xv
 apply aI<;>intro CF
 .exact Xv
 .exact Xv
 apply aI<;>intro B9;apply aI<;>intro Cr
 .exact Xv
 .exact Xv
 apply aI<;>intro CG
 .exact Xv
 apply aI<;>intro C1
 .exact Xv
 apply aI<;>intro Dk
 .exact Xv
 apply aI<;>intro Df;refine oq ?_;apply aI<;>intro Dg
 .exact XH
 .exact Xv
 apply aI<;>intro Dz
 .exact Xv
 .exact Xv
 .exact Xv
def jT:List Dt->Prop
 |[.z x0,.l x1]=>let f (pr:Prog):Prop:=pr.l.length<=maxLen;f ⟨x0,x1⟩
 |_=>False
def c_icheck:Cd:=⟨12,[.agg kProg],[.one (.int .i64),.one (.int .i64)],rd_Prog fun pr _=>[.z ((aY pr).1),.z ((aY pr).2)],jT⟩
def an3:Tr:=(.next 0 (.cons (.f .add .i64 (.w 4) (.p 1)) .nil))
def an4:E:=(.get (.g 1) (.f .sub .i64 (.len (.g 1)) (.p 1)) 0)
def pQ:Tr:=
(.call 0 [.bool] (.cons (.w 0) (.cons (.p 0) (.cons (.p 256) .nil))) 2
(.br (.s 2)
(.call 0 [.bool] (.cons (.f .sub .i64 (.len (.g 1)) (.p 1)) (.cons (.p 0) (.cons (.p 63) .nil))) 3
(.br (.s 3)
(.loop 0 4 [.int .i64] (.cons (.p 0) .nil)
(.br (.lt (.w 4) (.len (.g 1)))
(.br (.lt (.w 4) (.p 0))
.panic
(.call 1 [.bool] (.ins (.g 1) (.w 4) .nil) 5
(.br (.s 5)
(.call 2 [.int .i64,.bool] (.cons (.w 4) (.ins (.g 1) (.w 4) .nil)) 6
(.br (.s 7)
(.call 0 [.bool] (.cons (.w 6) (.cons (.p 0) (.cons (.f .sub .i64 (.len (.g 1)) (.p 1)) .nil))) 8
(.br (.s 8)
 an3
(.u (.cons (.w 4) (.cons (.p 32) .nil)))))
 an3))
(.u (.cons (.w 4) (.cons (.p 31) .nil))))))
(.br (.lt (.f .sub .i64 (.len (.g 1)) (.p 1)) (.p 0))
.panic
(.br (.lt (.f .sub .i64 (.len (.g 1)) (.p 1)) (.len (.g 1)))
(.br (.eq an4 (.p 4))
(.u (.cons (.p 0) (.cons (.p 0) .nil)))
(.br (.eq an4 (.p 6))
(.u (.cons (.p 0) (.cons (.p 0) .nil)))
(.u (.cons (.f .sub .i64 (.len (.g 1)) (.p 1)) (.cons (.p 33) .nil)))))
.panic))))
(.u (.cons (.p 0) (.cons (.p 3) .nil)))))
(.u (.cons (.p 0) (.cons (.p 2) .nil)))))
def agD:cg aeA (FV 0 [c_iwi,c_nmay,c_itgt]) [] [(7,[.tmpI 26 .i64]++E3 [(2,2),(5,4),(27,23)])] [] 200 f12 c_icheck.a c_icheck.r (tp c_icheck.r) (v_Prog []) pQ:=E4 (by kernel_rfl)
def alg:c_icheck.Ok ZF:=
 GD (hl:=.inr (.inl ⟨(fun xs (h:jT xs) L hL=>by unfold jT at h;split at h<;>first|exact h.elim|(simp at hL;subst hL;exact h)),rfl⟩)) pQ (v_Prog []) vm (Am QE<|Am amX<|Am am3 AI) func12 EZ agD<|gX fun pr hpr hp U g=>by
 simp only[c_icheck,jT,dN,b2i_one,Ins.eta,Prog.eta,aj]at hp;have Aq:=g;simp only[dN,eB,AA,ZD]at g;simp only[pQ,an4,an3,c_iwi,c_nmay,c_itgt,c_icheck,dN,eB,Ai,ZH,ZD,-eq_self,Ins.eta,Prog.eta,aj,g];refine oq ?_;apply aI<;>intro c0;refine oq ?_;apply aI<;>intro c1;refine⟨fun ds=>∃n:Nat,ds=[.z (n:Int)]/\n<=pr.l.length/\(Dr pr pr.l.length 0=Dr pr (pr.l.length-n) n),fun ds=>(pr.l.length-(dI ds 0).toNat),⟨0,rfl,Nat.zero_le _,rfl⟩,?_⟩;intro U1 A0 _ Bc;obtain⟨n,Br,r1,r2⟩:=Bc;simp only[Be,Dt.z.injEq,and_true]at Br;have g1:=(aZ A0 _ 0 ST).trans Aq;simp only[dN,eB,AA,ZD]at g1;simp only[g1,Br,aj,-eq_self];apply aI<;>intro c2;apply aI<;>intro c3
 .exact ai (Ah c3) Fn
 refine oq ?_;apply aI<;>intro c4;refine oq ?_;apply aI<;>intro c5;refine oq ?_;apply aI<;>intro c6
 .exact⟨⟨n+1,by rw[GF (YY.1 (Ah c2)) hp],YY.1 (Ah c2),r2.trans (mq (YY.1 (Ah c2)) (pg c4 (.inr c6)))⟩,by rw[GF (YY.1 (Ah c2)) hp];have:=YY.1 (Ah c2);show pr.l.length-(((n+1:Nat):Int)).toNat<pr.l.length-((n:Int)).toNat;omega⟩
 .rw[iG c0 c1 r2 (YY.1 (Ah c2)) (pf c4 c5 c6)];try rfl
 .exact⟨⟨n+1,by rw[GF (YY.1 (Ah c2)) hp],YY.1 (Ah c2),r2.trans (mq (YY.1 (Ah c2)) (pg c4 (.inl c5)))⟩,by rw[GF (YY.1 (Ah c2)) hp];have:=YY.1 (Ah c2);show pr.l.length-(((n+1:Nat):Int)).toNat<pr.l.length-((n:Int)).toNat;omega⟩
 .rw[iG c0 c1 r2 (YY.1 (Ah c2)) (qU c4)];try rfl
 apply aI<;>intro c7
 .have q:=zg c1 hp;have w:=Ah c7;unfold Prog.last at q;omega
 apply aI<;>intro c8;apply aI<;>intro c9
 .rw[fS c0 c1 r2 (by have:=Ab c2;omega),ae (.inl (Bs c9))];try rfl
 apply aI<;>intro BF
 .rw[fS c0 c1 r2 (by have:=Ab c2;omega),ae (.inr (Bs BF))];try rfl
 .rw[fS c0 c1 r2 (by have:=Ab c2;omega),aa (fun h=>h.elim (Ch c9) (Ch BF))];try rfl
 .have q:=zg c1 hp;have w:=Ab c8;unfold Prog.last at q;omega
 .rw[nT c0 c1];try rfl
 .rw[nU c0];try rfl
def ak{s:Sc}{b:Bool}:oe t s b=if -1048576<=s.sl/\s.sh<=1048576 /\ -1048576<=(ar t s b).lo/\(ar t s b).lo<=1048576 /\ -1048576<=(ar t s b).hi/\(ar t s b).hi<=1048576 then ar t s b else tscal:=by unfold oe BK;simp only[ne,aE,and_assoc]
def bz:=aI Prog.eta (Ins.eta)
def aJ{p:Prop}(k:q2)(h:p->q=q2:=by intro e;(try simp only[e,bK,bz,aj,aP,-eq_self]);rfl):p->q:=fun e=>(h e).symm▸k
def xZ:List (Nat×TI):=[(2,CC),
 (3,CZ),
 (4,EK),
 (36,Ue),
 (38,fY),
 (39,fe),
 (46,ic),
 (48,jr),
 (50,eU),
 (52,rh),
 (66,qZ),
 (96,Ud),
 (149,ame),
 (159,⟨ZB,10,(zN 10 0),[],some (10,38),none,ZC,ZC,none,10,ZC,none,ZC,0⟩)]
def jG:∀t i,(t,i)∈xZ->TIok ZF t i:=bl (DS (z:=Ev) ⟨ru,lx⟩<|DS (z:=Dw) ⟨rt,lw⟩<|DS (z:=lX) ⟨ly,iq⟩ B1) B1 (by kernel_rfl)
def yH:List Dt->Prop
 |[.z x0]=>let f (n:Int):Prop:= -64<=n/\n<=64;f x0
 |_=>False
def c_vbel:Cd:=⟨77,[.one (.int .i64)],[.agg kSc],rdZ fun n _=>d_Sc (H9 (Ac .shr .u64 18446744073709551615 (Ac .sub .i64 64 n))) [],yH⟩
def an2:E:=(.f .shr .u64 (.p 18446744073709551615) (.f .sub .i64 (.p 64) (.w 0)))
def afR:Tr:=
(.br (.lt (.f .sub .i64 (.p 64) (.w 0)) (.p 0))
.panic
(.call 0 (kRg) .nil 1
(.call 1 (kSc) (.cons (.w 1) (.cons an2 (.vs 3 2 (.cons (.p 0) (.cons an2 .nil))))) 5
(.u (.vs 5 6 .nil)))))
def as7:c_vbel.Ok ZF:=
 AU afR [.int .i64] jG (Am nS<|Am nQ AI) func77<|fun n hn hp U g=>by
 simp only[c_vbel,yH,AP,b2i_one,bK,bz,aj,aP]at hp;simp only[AP,AJ,AA,ZD]at g;simp only[afR,an2,c_all,c_vnard,c_vbel,AP,AJ,Ai,ZH,ZD,-eq_self,bK,bz,aj,aP,g];apply aI<;>intro c0
 ·(have h:ZG .i64 (64-n)<0:=Ah c0;have gn:=iU hn;rw[aT]at h;omega)
 refine aJ ?_;refine aJ ?_
 .rfl
def c_vby:Cd:=⟨36,[.one (.int .i64)],[.agg kSc],rdZ fun q _=>d_Sc (Db q) [],T0⟩
def amp:Tr:=
(.call 0 (kSc) (.cons (.f .mul .i64 (.p 8) (.mn (.mx (.w 0) (.p 1)) (.p 8))) .nil) 1
(.u (.vs 1 6 .nil)))
def aqt:c_vby.Ok ZF:=
 AU amp [.int .i64] jG (Am as7 AI) func36<|fun q hq hp U g=>by
 simp only[AP,AA,ZD]at g;simp only[amp,c_vbel,c_vby,yH,AP,Ai,ZH,ZD,-eq_self,bK,bz,aj,aP,g];refine⟨?_,?_⟩
 ·(show -64<=ZG .i64 (8*min (max q 1) 8)/\IntKind.i64.wrap (8*min (max q 1) 8)<=64;rw[aT];omega)
 refine aJ ?_
 ·(refine aum ?_;unfold Db;rcases zD q with h|h|h|h|h|h|h|h<;>rw[h]<;>rfl)
def apt(key:Nat):Sm:=⟨32,key,[.one (.int .u64)],[.one (.int .i64)],ZC⟩
def ar5(x:Int):List Dt:=[.z (CO x)]
def UC:List Dt->List Dt
 |[.z x0]=>ar5 x0
 |_=>[]
def apk:Tr:=
(.call 0 [.int .i64] (.cons (.w 0) .nil) 1
(.u (.cons (.w 1) .nil)))
def asc:Spec:={F:=fun k=>match k with|0=>pW|_=>fun _=>[],pre:=fun _ _=>True,hw:=Jr,hx:=Vl,hi:=Vj}
def auU:cg xZ [yK 0] [] [] [] 200 f32 [.one (.int .u64)] [.one (.int .i64)] ZC [.int .u64] apk:=E4 (by kernel_rfl)
def auS(x:Int)(hx:Ae .u64 x=ZB):Cn apk asc [.int .u64] [.z x] UC:=by
 intro U g;simp only[AA,ZD]at g;simp only[apk,asc,pW,afB,UC,ar5,Ai,ZH,ZD,-eq_self,bK,bz,aj,aP,g];refine aJ ?_
 ·(simp only[pW];try rfl)
def auV{sp:Spec}(hF:sp.F key=UC)(hP:sp.pre key=fun _=>True:=by rfl)(hH:∀w,sp.hw w->Jr w:=by exact fun _ h=>h):SmOk ZF sp (apt key):=TJ (s:=apt key) (hW:=hH) hF hP (by kernel_rfl) jG (EJ (agF rfl) Vn) func32 EZ auU (.inl rfl) (fun x gx hp=>auS x gx)
def c_bnot:Cd:=⟨40,[.one (.int .i8)],[.one (.int .i8),.one .bool],rdZ fun cc _=>[.z (iu cc),.z (AD (gD cc))],T0⟩
def agv:Tr:=
(.br (.lt (.w 0) (.p 0))
(.u (.cons (.p 0) (.j (.tt ZC) .nil)))
(.br (.lt (.w 0) (.p 10))
(.br (.eq (.w 0) (.p 0))
(.u (.cons (.p 1) (.j (.tt ZB) .nil)))
(.br (.eq (.w 0) (.p 1))
(.u (.cons (.p 0) (.j (.tt ZB) .nil)))
(.br (.eq (.w 0) (.p 2))
(.u (.cons (.p 5) (.j (.tt ZB) .nil)))
(.br (.eq (.w 0) (.p 3))
(.u (.cons (.p 4) (.j (.tt ZB) .nil)))
(.br (.eq (.w 0) (.p 4))
(.u (.cons (.p 3) (.j (.tt ZB) .nil)))
(.br (.eq (.w 0) (.p 5))
(.u (.cons (.p 2) (.j (.tt ZB) .nil)))
(.br (.eq (.w 0) (.p 6))
(.u (.cons (.p 9) (.j (.tt ZB) .nil)))
(.br (.eq (.w 0) (.p 7))
(.u (.cons (.p 8) (.j (.tt ZB) .nil)))
(.br (.eq (.w 0) (.p 8))
(.u (.cons (.p 7) (.j (.tt ZB) .nil)))
(.br (.eq (.w 0) (.p 9))
(.u (.cons (.p 6) (.j (.tt ZB) .nil)))
.panic))))))))))
(.u (.cons (.p 0) (.j (.tt ZC) .nil)))))
def atx:c_bnot.Ok ZF:=
 AU agv [.int .i8] jG AI func40<|fun cc Cu hp U g=>by
 simp only[AA,ZD]at g;simp only[agv,c_bnot,Ai,ZH,ZD,-eq_self,bK,bz,aj,aP,g];apply aI<;>intro c0
 .exact Xw
 apply aI<;>intro c1;apply aI<;>intro c2
 .exact Xw
 apply aI<;>intro c3
 .exact Xw
 apply aI<;>intro c4
 .exact Xw
 apply aI<;>intro c5
 .exact Xw
 apply aI<;>intro c6
 .exact Xw
 apply aI<;>intro c7
 .exact Xw
 apply aI<;>intro c8
 .exact Xw
 apply aI<;>intro c9
 .exact Xw
 apply aI<;>intro BF
 .exact Xw
 apply aI<;>intro CF
 .exact Xw
 ·(simp_all;omega)
 .exact Xw
def pS:List Dt->Prop
 |[.l x0,.z x1,.z x2,.z x3,.z x4,.z x5,.z x6,.z x7,.z x8,.z x9,.z J7,.z Ln,.z ME,.z Pn,.z Po,.z Pp,.z Pq,.z Pr,.z Ps]=>let f (x:LL) (a:Ty) (b:Ty):Prop:=x.length=1;f x0 ⟨x1,x2,x3,x4,x5,x6,x7,x8,x9⟩ ⟨J7,Ln,ME,Pn,Po,Pp,Pq,Pr,Ps⟩
 |_=>False
def c_valu:Cd:=⟨34,[.one (.el (kN 9 220090000) 66),.agg kTy,.agg kTy],[.agg kTy],rdL fun x=>rd_Ty fun a=>rd_Ty fun b _=>d_Ty (Dv (ab x 0) a b) [],pS⟩
def Un:E:=(.f .add .i64 (.w 27) (.f .sub .i64 (.p 0) (.w 31)))
def Uo:E:=(.f .add .i64 (.w 26) (.f .sub .i64 (.p 0) (.w 32)))
def anY:Tr:=(.u (.cons (.p 1) (.vs 37 6 (.cons (.p 0) (.cons (.p 0) .nil)))))
def anZ:Tr:=(.call 2 (kSc) (.cons (.p 4) .nil) 37
 anY)
def an0:Tr:=(.br (.eq (.get (.g 0) (.p 0) 2) (.p 64))
(.br (.eq (.get (.g 0) (.p 0) 1) (.p 0))
(.br (.lt (.w 22) (.p (-1048576)))
(.call 3 (kTy) .nil 37
(.u (.vs 37 9 .nil)))
(.br (.lt (.p 1048576) (.w 23))
(.call 3 (kTy) .nil 37
(.u (.vs 37 9 .nil)))
(.br (.lt (.f .add .i64 (.w 35) (.w 22)) (.p (-1048576)))
(.call 3 (kTy) .nil 37
(.u (.vs 37 9 .nil)))
(.br (.lt (.p 1048576) (.f .add .i64 (.w 35) (.w 22)))
(.call 3 (kTy) .nil 37
(.u (.vs 37 9 .nil)))
(.br (.lt (.f .add .i64 (.w 36) (.w 23)) (.p (-1048576)))
(.call 3 (kTy) .nil 37
(.u (.vs 37 9 .nil)))
(.br (.lt (.p 1048576) (.f .add .i64 (.w 36) (.w 23)))
(.call 3 (kTy) .nil 37
(.u (.vs 37 9 .nil)))
(.u (.vs 28 7 (.cons (.f .add .i64 (.w 35) (.w 22)) (.cons (.f .add .i64 (.w 36) (.w 23)) .nil))))))))))
(.call 3 (kTy) .nil 37
(.u (.vs 37 9 .nil))))
 anZ)
def an1:Tr:=(.br (.eq (.get (.g 0) (.p 0) 2) (.p 64))
(.br (.eq (.w 28) (.p 2))
(.call 3 (kTy) .nil 37
(.u (.vs 37 9 .nil)))
(.br (.eq (.w 28) (.p 3))
(.call 3 (kTy) .nil 37
(.u (.vs 37 9 .nil)))
(.br (.eq (.get (.g 0) (.p 0) 1) (.p 0))
(.br (.lt (.w 31) (.p (-1048576)))
(.call 3 (kTy) .nil 37
(.u (.vs 37 9 .nil)))
(.br (.lt (.p 1048576) (.w 32))
(.call 3 (kTy) .nil 37
(.u (.vs 37 9 .nil)))
(.br (.lt (.f .add .i64 (.w 26) (.w 31)) (.p (-1048576)))
(.call 3 (kTy) .nil 37
(.u (.vs 37 9 .nil)))
(.br (.lt (.p 1048576) (.f .add .i64 (.w 26) (.w 31)))
(.call 3 (kTy) .nil 37
(.u (.vs 37 9 .nil)))
(.br (.lt (.f .add .i64 (.w 27) (.w 32)) (.p (-1048576)))
(.call 3 (kTy) .nil 37
(.u (.vs 37 9 .nil)))
(.br (.lt (.p 1048576) (.f .add .i64 (.w 27) (.w 32)))
(.call 3 (kTy) .nil 37
(.u (.vs 37 9 .nil)))
(.u (.vs 19 7 (.cons (.f .add .i64 (.w 26) (.w 31)) (.cons (.f .add .i64 (.w 27) (.w 32)) .nil))))))))))
(.br (.eq (.get (.g 0) (.p 0) 1) (.p 1))
(.br (.lt (.w 31) (.p (-1048576)))
(.call 3 (kTy) .nil 37
(.u (.vs 37 9 .nil)))
(.br (.lt (.p 1048576) (.w 32))
(.call 3 (kTy) .nil 37
(.u (.vs 37 9 .nil)))
(.br (.lt Uo (.p (-1048576)))
(.call 3 (kTy) .nil 37
(.u (.vs 37 9 .nil)))
(.br (.lt (.p 1048576) Uo)
(.call 3 (kTy) .nil 37
(.u (.vs 37 9 .nil)))
(.br (.lt Un (.p (-1048576)))
(.call 3 (kTy) .nil 37
(.u (.vs 37 9 .nil)))
(.br (.lt (.p 1048576) Un)
(.call 3 (kTy) .nil 37
(.u (.vs 37 9 .nil)))
(.u (.vs 19 7 (.cons Uo (.cons Un .nil))))))))))
(.call 3 (kTy) .nil 37
(.u (.vs 37 9 .nil)))))))
 anZ)
def yE:Tr:=
(.br (.lt (.p 0) (.len (.g 0)))
(.cut 0 19 [.int .i8,.int .u64,.int .u64,.int .i64,.int .i64,.int .u64,.int .u64,.int .i64,.int .i64,.int .i8,.int .u64,.int .u64,.int .i64,.int .i64,.int .u64,.int .u64,.int .i64,.int .i64]
(.br (.eq (.get (.g 0) (.p 0) 1) (.p 11))
(.br (.eq (.get (.g 0) (.p 0) 2) (.p 64))
(.u (.vs 10 9 .nil))
(.next 0 (.vs 10 9 (.vs 10 9 .nil))))
(.br (.eq (.get (.g 0) (.p 0) 1) (.p 8))
(.call 0 (kSc) (.cons (.p 0) .nil) 19
(.next 0 (.vs 1 9 (.cons (.p 1) (.vs 19 6 (.cons (.p 0) (.cons (.p 0) .nil)))))))
(.next 0 (.vs 1 18 .nil))))
(.br (.eq (.w 19) (.p 2))
 an1
(.br (.eq (.w 19) (.p 3))
 an1
(.br (.eq (.w 28) (.p 2))
 an0
(.br (.eq (.w 28) (.p 3))
 an0
(.call 1 (kSc) (.cons (.get (.g 0) (.p 0) 1) (.cons (.get (.g 0) (.p 0) 2) (.vs 20 6 (.vs 29 6 .nil)))) 37
 anY))))))
(.stuck 54))
def apq:cg xZ (FV 0 [c_vone,c_vdo,c_vby,c_tscal]) [(73,f73,[],[]),(33,f33,[],[]),(75,f75,[],[]),(114,f114,[],[])] [(999997,[])] [(8,[.cels 1 0 (kN 9 221122110),.cels 2 0 (kN 9 221122110)]++E3 [(13,25)])] 200 f34 c_valu.a c_valu.r (tp c_valu.r) (.list (kN 9 220090000)::v_Ty (v_Ty [])) yE:=E4 (by kernel_rfl)
def as8:c_valu.Ok ZF:=
 GD (hl:=.inr (.inl ⟨(fun xs (h:pS xs) L hL=>by unfold pS at h;split at h<;>first|exact h.elim|(simp at hL;subst hL;rw[h];unfold maxLen;omega)),rfl⟩)) yE (.list (kN 9 220090000)::v_Ty (v_Ty [])) jG (Am TP<|Am avc<|Am aqt<|Am qu AI) func34 (Gw func73 (Gw func33 (Gw func75 (Gw func114 EZ)))) apq<|fun x hx=>bL fun a ha=>bL fun b hb hp U g=>by
 simp only[c_valu,pS,AE,b2i_one,bK,bz,aj,aP]at hp;have Aq:=g;simp only[AE,AP,AA,ZD]at g;simp only[yE,an1,an0,anZ,anY,Uo,Un,c_vone,c_vdo,c_vby,c_tscal,c_valu,AE,AP,Ai,ZH,ZD,-eq_self,bK,bz,aj,aP,g];apply aI<;>intro c0;refine⟨fun ds=>∃a1 b1:Ty,ds=d_Ty a1 (d_Ty b1 [])/\Dv (ab x 0) a b=bi (ab x 0).op (ab x 0).w a1 b1,?_,?_⟩;apply aI<;>intro c1;apply aI<;>intro c2
 .rw[va_m c1 c2];try rfl
 .exact⟨b,b,rfl,va_o c1 c2⟩
 apply aI<;>intro c3;refine aJ ?_
 .exact⟨a,DQ (Cb 0),rfl,va_n c1 c3⟩
 .exact⟨a,b,rfl,va_e c1 c3⟩
 intro U1 A0 _ Bc;obtain⟨a1,b1,Bc,hj⟩:=Bc;have Al:=(aZ A0 _ 0 ST).trans Aq;have g1:=Al;simp only[AE,AP,AA,ZD]at g1 Bc;simp only[g1,Bc,bK,bz,-eq_self]
 .repeat' first|apply aI<;>intro c|refine aJ ?_|exact Fd
 ·(rw[hp]at c0;simp at c0)
def PM:List C:=FR Dw 11++(FR Dw 8++[])
def aim:Tryz.prog.eqGuardType Tryz.prog.depth 56=ZC:=by kernel_rfl
def au5:Kl ZF 7 53 (FR Dw 11):=Kl.array (d:=6) (fun vs hv=>aqj vs hv) underlying53 (by kernel_rfl) (by kernel_rfl)
def klA8:Kl ZF 7 54 (FR Dw 8):=Kl.array (d:=6) (fun vs hv=>aqj vs hv) underlying54 (by kernel_rfl) (by kernel_rfl)
def asM:Kl ZF 8 56 PM:=Kl.struct (KlSeq.cons au5 (by rfl) (by kernel_rfl) (KlSeq.cons klA8 (by rfl) (by kernel_rfl) (KlSeq.nil _ _ _))) underlying56 (by kernel_rfl) (by kernel_rfl)
def atO(vs:List Value)(hv:aL vs PM):(Value.agg vs.toArray).formed ZF 56=ZB:=aiq underlying56 (by kernel_rfl) vs hv
def anl(vs us:List Value)(hv:aL vs PM)(hu:aL us PM)(w:World):(Op.equal 56 (.agg vs.toArray) (.agg us.toArray)).run ZF w=.ok (Dh vs us) w:=iI (by kernel_rfl) atO 8 (fun vs hv=>asM vs hv) vs us hv hu w
def Xf{p:Prop}(k:q2)(h:p->q=q2:=by intro e;(try simp only[e,bK,bz,aj,aP,-eq_self]);rfl):p->q:=fun e=>(h e).symm▸k
def xY:List (Nat×TI):=[(2,CC),
 (3,CZ),
 (4,EK),
 (22,vq),
 (24,vp),
 (36,Ue),
 (38,fY),
 (39,fe),
 (46,ic),
 (48,jr),
 (50,eU),
 (52,rh),
 (66,qZ),
 (96,Ud),
 (149,ame)]
def mf:∀t i,(t,i)∈xY->TIok ZF t i:=bl (DS (z:=Ev) ⟨ru,lx⟩<|DS (z:=Dw) ⟨rt,lw⟩<|DS (z:=lX) ⟨ly,iq⟩ B1) B1 (by kernel_rfl)
def yG:List Dt->Prop
 |[.z x0]=>let f (n:Int):Prop:=1<=n/\n<=8;f x0
 |_=>False
def c_vcnt:Cd:=⟨115,[.one (.int .u64)],[.one (.int .i64)],rdZ fun n _=>[.z (Co n)],yG⟩
def anT:E:=(.f .add .u64 (.f .and .u64 (.f .shr .u64 (.w 0) (.p 1)) (.p 6148914691236517205)) (.f .and .u64 (.w 0) (.p 6148914691236517205)))
def anU:E:=(.f .add .u64 (.f .and .u64 (.f .shr .u64 anT (.p 2)) (.p 3689348814741910323)) (.f .and .u64 anT (.p 3689348814741910323)))
def anV:E:=(.f .and .u64 (.f .add .u64 (.f .shr .u64 anU (.p 4)) anU) (.p 1085102592571150095))
def anW:E:=(.f .add .u64 anV (.f .shr .u64 anV (.p 8)))
def anX:E:=(.f .add .u64 anW (.f .shr .u64 anW (.p 16)))
def yD:Tr:=
(.u (.cons (.f .and .i64 (.F .i64 (.f .add .u64 anX (.f .shr .u64 anX (.p 32)))) (.p 127)) .nil))
def apo:cg xY (FV 0 []) [(158,f158,[],[])] [] [] 200 f115 c_vcnt.a c_vcnt.r (tp c_vcnt.r) [.int .u64] yD:=E4 (by kernel_rfl)
def as5:c_vcnt.Ok ZF:=
 GD yD [.int .u64] mf AI func115 (Gw func158 EZ) apo<|fun n hn hp U g=>by
 simp only[c_vcnt,yG,b2i_one,bK,bz,aj,aP]at hp;simp only[AA,ZD]at g;simp only[yD,anX,anW,anV,anU,anT,c_vcnt,Ai,ZH,ZD,-eq_self,bK,bz,aj,aP,g]
 ·(rcases cnt8 hp with rfl|rfl|rfl|rfl|rfl|rfl|rfl|rfl<;>rfl)
def wv:List Dt->Prop
 |[.z x0,.l x1,.z x2,.z x3,.z x4,.z x5,.z x6,.z x7,.z x8,.z x9,.z J7,.z Ln,.z ME]=>let f (p:Prog) (t:Ty) (off:Int) (size:Int):Prop:=p.l.length<=maxLen;f ⟨x0,x1⟩ ⟨x2,x3,x4,x5,x6,x7,x8,x9,J7⟩ Ln ME
 |_=>False
def c_vwi:Cd:=⟨76,[.agg kProg,.agg kTy,.one (.int .i64),.one (.int .i64)],[.one .bool],rd_Prog fun p=>rd_Ty fun t=>rdZ fun off=>rdZ fun size _=>[.z (AD (aG p.ctx t off size))],wv⟩
def anS:E:=(.f .add .i64 (.f .add .i64 (.w 10) (.w 11)) (.w 12))
def WX:Tr:=
(.br (.eq (.w 2) (.p 2))
(.br (.lt (.w 12) (.p 1))
 zlF
(.br (.lt (.p 8) (.w 12))
 zlF
(.call 0 [.int .i64] (.cons (.F .u64 (.w 12)) .nil) 13
(.br (.eq (.w 13) (.p 1))
(.br (.lt (.w 11) (.p (-1048576)))
 zlF
(.br (.lt (.p 1048576) (.w 11))
 zlF
(.br (.lt (.w 9) (.p (-1048576)))
 zlF
(.br (.lt (.p 1048576) (.w 9))
 zlF
(.br (.lt (.w 10) (.p (-1048576)))
 zlF
(.br (.lt (.p 1048576) (.w 10))
 zlF
(.br (.lt (.w 10) (.w 9))
 zlF
(.br (.lt (.f .add .i64 (.w 9) (.w 11)) (.p 0))
 zlF
(.u (.j (.not (.lt (.w 0) anS)) .nil))))))))))
 zlF))))
(.br (.eq (.w 2) (.p 3))
(.br (.lt (.w 12) (.p 1))
 zlF
(.br (.lt (.p 8) (.w 12))
 zlF
(.call 0 [.int .i64] (.cons (.F .u64 (.w 12)) .nil) 13
(.br (.eq (.w 13) (.p 1))
(.br (.lt (.w 11) (.p (-1048576)))
 zlF
(.br (.lt (.p 1048576) (.w 11))
 zlF
(.br (.lt (.w 9) (.p (-1048576)))
 zlF
(.br (.lt (.p 1048576) (.w 9))
 zlF
(.br (.lt (.w 10) (.p (-1048576)))
 zlF
(.br (.lt (.p 1048576) (.w 10))
 zlF
(.br (.lt (.w 10) (.w 9))
 zlF
(.br (.lt (.f .add .i64 (.w 9) (.w 11)) (.p 0))
 zlF
(.u (.j (.not (.lt (.p 64) anS)) .nil))))))))))
 zlF))))
 zlF))
def ar8:cg xY (FV 0 [c_vcnt]) [(73,f73,[],[]),(114,f114,[],[])] [(999997,[])] [] 200 f76 c_vwi.a c_vwi.r (tp c_vwi.r) (v_Prog (v_Ty [.int .i64,.int .i64])) WX:=E4 (by kernel_rfl)
def ava:c_vwi.Ok ZF:=
 GD (hl:=.inr (.inl ⟨(fun xs (h:wv xs) L hL=>by unfold wv at h;split at h<;>first|exact h.elim|(simp at hL;subst hL;exact h)),rfl⟩)) WX (v_Prog (v_Ty [.int .i64,.int .i64])) mf (Am as5 AI) func76 (Gw func73 (Gw func114 EZ)) ar8<|gX fun p hp=>bL fun t ht=>fun off OM size Jg hp U g=>by
 simp only[c_vwi,wv,dN,AE,b2i_one,bK,bz,aj,aP]at hp;simp only[dN,AE,AA,ZD]at g;simp only[WX,anS,c_vcnt,c_vwi,yG,dN,AE,Ai,ZH,ZD,-eq_self,bK,bz,aj,aP,g];apply aI<;>intro c0;apply aI<;>intro c1
 .exact LT
 apply aI<;>intro c2
 .exact LT
 refine⟨?_,?_⟩
 ·(show 1<=ZG .u64 size/\IntKind.u64.wrap size<=8;rw[aW];have:=Ab c1;have:=Ab c2;omega)
 refine Xf ?_
 .repeat' first|apply aI<;>intro c|exact LT
 apply aI<;>intro B9;apply aI<;>intro Cr
 .exact LT
 apply aI<;>intro CG
 .exact LT
 refine⟨?_,?_⟩
 ·(show 1<=ZG .u64 size/\IntKind.u64.wrap size<=8;rw[aW];have:=Ab Cr;have:=Ab CG;omega)
 refine Xf ?_
 .repeat' first|apply aI<;>intro c|exact LT
 .exact LT
def pT:List Dt->Prop
 |[.z x0,.l x1,.l x2,.z x3,.z x4,.z x5,.z x6,.z x7,.z x8,.z x9,.z J7,.z Ln]=>let f (p:Prog) (x:LL) (t:Ty):Prop:=x.length=1/\p.l.length<=maxLen;f ⟨x0,x1⟩ x2 ⟨x3,x4,x5,x6,x7,x8,x9,J7,Ln⟩
 |_=>False
def c_vacc:Cd:=⟨35,[.ptr kProg,.one (.el (kN 9 220090000) 66),.agg kTy],[.one (.int .i64),.one (.int .i64),.one .bool],rd_Prog fun p=>rdL fun x=>rd_Ty fun t _=>[.z (Ac .add .i64 t.lo (ab x 0).off),.z (Ac .add .i64 t.hi (ab x 0).off),.z (AD (aG p.ctx t (ab x 0).off (ab x 0).sz))],pT⟩
def afU:Tr:=
(.br (.lt (.p 0) (.len (.g 2)))
(.call 0 [.bool] (.cons (.w 0) (.N (.g 1) (.vs 3 9 (.cons (.get (.g 2) (.p 0) 7) (.cons (.F .i64 (.get (.g 2) (.p 0) 3)) .nil))))) 12
(.u (.cons (.f .add .i64 (.w 10) (.get (.g 2) (.p 0) 7)) (.cons (.f .add .i64 (.w 11) (.get (.g 2) (.p 0) 7)) (.j (.s 12) .nil)))))
(.stuck 54))
def as9:c_vacc.Ok ZF:=
 AU (hl:=.inr (.inl ⟨(fun xs (h:pT xs) L hL=>by unfold pT at h;split at h<;>first|exact h.elim|(simp at hL;rcases hL with rfl|rfl;exact h.2;rw[h.1];unfold maxLen;omega)),rfl⟩)) afU (v_Prog (.list (kN 9 220090000)::v_Ty [])) mf (Am ava AI) func35<|gX fun p hp=>fun x hx=>bL fun t ht hp U g=>by
 simp only[c_vacc,pT,dN,AE,b2i_one,bK,bz,aj,aP]at hp;simp only[dN,AE,AA,ZD]at g;simp only[afU,c_vwi,c_vacc,wv,dN,AE,Ai,ZH,ZD,-eq_self,bK,bz,aj,aP,g];apply aI<;>intro c0;refine⟨?_,?_⟩
 .exact hp.2
 refine Xf ?_
 ·(rw[atA (aqX (fun r hr=>qa (hx.row r hr) (c:=3) (k:=some .i8) rfl) 0)];rfl)
 ·(rw[hp.1]at c0;simp at c0)
def c_vsca:Cd:=⟨33,[.agg kSc],[.agg kTy],rd_Sc fun s _=>d_Ty (ty 1 s 0 0) [],T0⟩
def afI:Tr:=
(.u (.cons (.p 1) (.vs 0 6 (.cons (.p 0) (.cons (.p 0) .nil)))))
def as0:c_vsca.Ok ZF:=
 AU afI (v_Sc []) mf AI func33<|dy fun s hs hp U g=>by
 simp only[AP,AE,AA,ZD]at g;simp only[afI,c_vsca,AP,AE,Ai,ZH,ZD,-eq_self,bK,bz,aj,aP,g]
 .rfl
def bv{p:Prop}(k:q2)(h:p->q=q2:=by intro e;(try simp only[e,bK,-eq_self]);rfl):p->q:=fun e=>(h e).symm▸k
def aex:List (Nat×TI):=[(2,CC),
 (3,CZ),
 (5,Lk),
 (38,fY),
 (39,fe),
 (46,ic),
 (48,jr),
 (50,PI),
 (52,aaj),
 (53,rb),
 (54,ra),
 (56,vo),
 (60,Qs),
 (61,Qr),
 (63,Qq)]
def ef:∀t i,(t,i)∈aex->TIok ZF t i:=bl B1 B1 (by kernel_rfl)
def c_tword0:Cd:=⟨24,[.agg kFr,.one (.p .i64 0)],[.one (.int .u64)],rd_Fr fun f _=>[.z (w8 f.f0 f.f1 f.f2 f.f3 f.f4 f.f5 f.f6 f.f7)],T0⟩
def we:Tr:=
(.u (.cons (.f .or .u64 (.f .or .u64 (.f .or .u64 (.f .or .u64 (.f .or .u64 (.f .or .u64 (.f .or .u64 (.f .or .u64 (.p 0) (.f .shl .u64 (.F .u64 (.w 0)) (.p 0))) (.f .shl .u64 (.F .u64 (.w 1)) (.p 8))) (.f .shl .u64 (.F .u64 (.w 2)) (.p 16))) (.f .shl .u64 (.F .u64 (.w 3)) (.p 24))) (.f .shl .u64 (.F .u64 (.w 4)) (.p 32))) (.f .shl .u64 (.F .u64 (.w 5)) (.p 40))) (.f .shl .u64 (.F .u64 (.w 6)) (.p 48))) (.f .shl .u64 (.F .u64 (.w 7)) (.p 56))) .nil))
def ak3:c_tword0.Ok ZF:=
 AU we (v_Fr []) ef AI func24<|oy fun f hf hp U g=>by
 simp only[c_tword0,jY,rdZ,rdB,rdL];simp only[B8,AA,ZD]at g;simp only[we,DH,c_tword0,B8,Ai,ZH,ZD,-eq_self,bK,g]
 .obtain⟨z0,z1,z2,z3,z4,z5,z6,z7,_⟩:=hf;exact zi Xs
def c_tword1:Cd:=⟨24,[.agg kFr,.one (.p .i64 1)],[.one (.int .u64)],rd_Fr fun f _=>[.z (w8 f.f8 f.f9 f.f10 f.f11 f.f12 f.f13 f.f14 f.f15)],T0⟩
def wd:Tr:=
(.u (.cons (.f .or .u64 (.f .or .u64 (.f .or .u64 (.f .or .u64 (.f .or .u64 (.f .or .u64 (.f .or .u64 (.f .or .u64 (.p 0) (.f .shl .u64 (.F .u64 (.w 8)) (.p 0))) (.f .shl .u64 (.F .u64 (.w 9)) (.p 8))) (.f .shl .u64 (.F .u64 (.w 10)) (.p 16))) (.f .shl .u64 (.F .u64 (.w 11)) (.p 24))) (.f .shl .u64 (.F .u64 (.w 12)) (.p 32))) (.f .shl .u64 (.F .u64 (.w 13)) (.p 40))) (.f .shl .u64 (.F .u64 (.w 14)) (.p 48))) (.f .shl .u64 (.F .u64 (.w 15)) (.p 56))) .nil))
def ak2:c_tword1.Ok ZF:=
 AU wd (v_Fr []) ef AI func24<|oy fun f hf hp U g=>by
 simp only[c_tword1,jY,rdZ,rdB,rdL];simp only[B8,AA,ZD]at g;simp only[wd,DH,c_tword1,B8,Ai,ZH,ZD,-eq_self,bK,g]
 .obtain⟨_,_,_,_,_,_,_,_,z0,z1,z2,z3,z4,z5,z6,z7,_⟩:=hf;exact zi Xs
def c_tword2:Cd:=⟨24,[.agg kFr,.one (.p .i64 2)],[.one (.int .u64)],rd_Fr fun f _=>[.z (w8 f.f16 f.f17 f.f18 f.f19 f.f20 f.f21 f.f22 f.f23)],T0⟩
def wc:Tr:=
(.u (.cons (.f .or .u64 (.f .or .u64 (.f .or .u64 (.f .or .u64 (.f .or .u64 (.f .or .u64 (.f .or .u64 (.f .or .u64 (.p 0) (.f .shl .u64 (.F .u64 (.w 16)) (.p 0))) (.f .shl .u64 (.F .u64 (.w 17)) (.p 8))) (.f .shl .u64 (.F .u64 (.w 18)) (.p 16))) (.f .shl .u64 (.F .u64 (.w 19)) (.p 24))) (.f .shl .u64 (.F .u64 (.w 20)) (.p 32))) (.f .shl .u64 (.F .u64 (.w 21)) (.p 40))) (.f .shl .u64 (.F .u64 (.w 22)) (.p 48))) (.f .shl .u64 (.F .u64 (.w 23)) (.p 56))) .nil))
def ak1:c_tword2.Ok ZF:=
 AU wc (v_Fr []) ef AI func24<|oy fun f hf hp U g=>by
 simp only[c_tword2,jY,rdZ,rdB,rdL];simp only[B8,AA,ZD]at g;simp only[wc,DH,c_tword2,B8,Ai,ZH,ZD,-eq_self,bK,g]
 .obtain⟨_,_,_,_,_,_,_,_,_,_,_,_,_,_,_,_,z0,z1,z2,z3,z4,z5,z6,z7,_⟩:=hf;exact zi Xs
def c_tword3:Cd:=⟨24,[.agg kFr,.one (.p .i64 3)],[.one (.int .u64)],rd_Fr fun f _=>[.z (w8 f.f24 f.f25 f.f26 f.f27 f.f28 f.f29 f.f30 f.f31)],T0⟩
def vZ:Tr:=
(.u (.cons (.f .or .u64 (.f .or .u64 (.f .or .u64 (.f .or .u64 (.f .or .u64 (.f .or .u64 (.f .or .u64 (.f .or .u64 (.p 0) (.f .shl .u64 (.F .u64 (.w 24)) (.p 0))) (.f .shl .u64 (.F .u64 (.w 25)) (.p 8))) (.f .shl .u64 (.F .u64 (.w 26)) (.p 16))) (.f .shl .u64 (.F .u64 (.w 27)) (.p 24))) (.f .shl .u64 (.F .u64 (.w 28)) (.p 32))) (.f .shl .u64 (.F .u64 (.w 29)) (.p 40))) (.f .shl .u64 (.F .u64 (.w 30)) (.p 48))) (.f .shl .u64 (.F .u64 (.w 31)) (.p 56))) .nil))
def ak0:c_tword3.Ok ZF:=
 AU vZ (v_Fr []) ef AI func24<|oy fun f hf hp U g=>by
 simp only[c_tword3,jY,rdZ,rdB,rdL];simp only[B8,AA,ZD]at g;simp only[vZ,DH,c_tword3,B8,Ai,ZH,ZD,-eq_self,bK,g]
 .obtain⟨_,_,_,_,_,_,_,_,_,_,_,_,_,_,_,_,_,_,_,_,_,_,_,_,z0,z1,z2,z3,z4,z5,z6,z7,_⟩:=hf;exact zi Xs
def c_tword4:Cd:=⟨24,[.agg kFr,.one (.p .i64 4)],[.one (.int .u64)],rd_Fr fun f _=>[.z (w8 f.f32 f.f33 f.f34 f.f35 f.f36 f.f37 f.f38 f.f39)],T0⟩
def vY:Tr:=
(.u (.cons (.f .or .u64 (.f .or .u64 (.f .or .u64 (.f .or .u64 (.f .or .u64 (.f .or .u64 (.f .or .u64 (.f .or .u64 (.p 0) (.f .shl .u64 (.F .u64 (.w 32)) (.p 0))) (.f .shl .u64 (.F .u64 (.w 33)) (.p 8))) (.f .shl .u64 (.F .u64 (.w 34)) (.p 16))) (.f .shl .u64 (.F .u64 (.w 35)) (.p 24))) (.f .shl .u64 (.F .u64 (.w 36)) (.p 32))) (.f .shl .u64 (.F .u64 (.w 37)) (.p 40))) (.f .shl .u64 (.F .u64 (.w 38)) (.p 48))) (.f .shl .u64 (.F .u64 (.w 39)) (.p 56))) .nil))
def akZ:c_tword4.Ok ZF:=
 AU vY (v_Fr []) ef AI func24<|oy fun f hf hp U g=>by
 simp only[c_tword4,jY,rdZ,rdB,rdL];simp only[B8,AA,ZD]at g;simp only[vY,DH,c_tword4,B8,Ai,ZH,ZD,-eq_self,bK,g]
 .obtain⟨_,_,_,_,_,_,_,_,_,_,_,_,_,_,_,_,_,_,_,_,_,_,_,_,_,_,_,_,_,_,_,_,z0,z1,z2,z3,z4,z5,z6,z7,_⟩:=hf;exact zi Xs
def c_tword5:Cd:=⟨24,[.agg kFr,.one (.p .i64 5)],[.one (.int .u64)],rd_Fr fun f _=>[.z (w8 f.f40 f.f41 f.f42 f.f43 f.f44 f.f45 f.f46 f.f47)],T0⟩
def vX:Tr:=
(.u (.cons (.f .or .u64 (.f .or .u64 (.f .or .u64 (.f .or .u64 (.f .or .u64 (.f .or .u64 (.f .or .u64 (.f .or .u64 (.p 0) (.f .shl .u64 (.F .u64 (.w 40)) (.p 0))) (.f .shl .u64 (.F .u64 (.w 41)) (.p 8))) (.f .shl .u64 (.F .u64 (.w 42)) (.p 16))) (.f .shl .u64 (.F .u64 (.w 43)) (.p 24))) (.f .shl .u64 (.F .u64 (.w 44)) (.p 32))) (.f .shl .u64 (.F .u64 (.w 45)) (.p 40))) (.f .shl .u64 (.F .u64 (.w 46)) (.p 48))) (.f .shl .u64 (.F .u64 (.w 47)) (.p 56))) .nil))
def akY:c_tword5.Ok ZF:=
 AU vX (v_Fr []) ef AI func24<|oy fun f hf hp U g=>by
 simp only[c_tword5,jY,rdZ,rdB,rdL];simp only[B8,AA,ZD]at g;simp only[vX,DH,c_tword5,B8,Ai,ZH,ZD,-eq_self,bK,g]
 .obtain⟨_,_,_,_,_,_,_,_,_,_,_,_,_,_,_,_,_,_,_,_,_,_,_,_,_,_,_,_,_,_,_,_,_,_,_,_,_,_,_,_,z0,z1,z2,z3,z4,z5,z6,z7,_⟩:=hf;exact zi Xs
def c_tword6:Cd:=⟨24,[.agg kFr,.one (.p .i64 6)],[.one (.int .u64)],rd_Fr fun f _=>[.z (w8 f.f48 f.f49 f.f50 f.f51 f.f52 f.f53 f.f54 f.f55)],T0⟩
def vW:Tr:=
(.u (.cons (.f .or .u64 (.f .or .u64 (.f .or .u64 (.f .or .u64 (.f .or .u64 (.f .or .u64 (.f .or .u64 (.f .or .u64 (.p 0) (.f .shl .u64 (.F .u64 (.w 48)) (.p 0))) (.f .shl .u64 (.F .u64 (.w 49)) (.p 8))) (.f .shl .u64 (.F .u64 (.w 50)) (.p 16))) (.f .shl .u64 (.F .u64 (.w 51)) (.p 24))) (.f .shl .u64 (.F .u64 (.w 52)) (.p 32))) (.f .shl .u64 (.F .u64 (.w 53)) (.p 40))) (.f .shl .u64 (.F .u64 (.w 54)) (.p 48))) (.f .shl .u64 (.F .u64 (.w 55)) (.p 56))) .nil))
def akX:c_tword6.Ok ZF:=
 AU vW (v_Fr []) ef AI func24<|oy fun f hf hp U g=>by
 simp only[c_tword6,jY,rdZ,rdB,rdL];simp only[B8,AA,ZD]at g;simp only[vW,DH,c_tword6,B8,Ai,ZH,ZD,-eq_self,bK,g]
 .obtain⟨_,_,_,_,_,_,_,_,_,_,_,_,_,_,_,_,_,_,_,_,_,_,_,_,_,_,_,_,_,_,_,_,_,_,_,_,_,_,_,_,_,_,_,_,_,_,_,_,z0,z1,z2,z3,z4,z5,z6,z7,_⟩:=hf;exact zi Xs
def c_tword7:Cd:=⟨24,[.agg kFr,.one (.p .i64 7)],[.one (.int .u64)],rd_Fr fun f _=>[.z (w8 f.f56 f.f57 f.f58 f.f59 f.f60 f.f61 f.f62 f.f63)],T0⟩
def vV:Tr:=
(.u (.cons (.f .or .u64 (.f .or .u64 (.f .or .u64 (.f .or .u64 (.f .or .u64 (.f .or .u64 (.f .or .u64 (.f .or .u64 (.p 0) (.f .shl .u64 (.F .u64 (.w 56)) (.p 0))) (.f .shl .u64 (.F .u64 (.w 57)) (.p 8))) (.f .shl .u64 (.F .u64 (.w 58)) (.p 16))) (.f .shl .u64 (.F .u64 (.w 59)) (.p 24))) (.f .shl .u64 (.F .u64 (.w 60)) (.p 32))) (.f .shl .u64 (.F .u64 (.w 61)) (.p 40))) (.f .shl .u64 (.F .u64 (.w 62)) (.p 48))) (.f .shl .u64 (.F .u64 (.w 63)) (.p 56))) .nil))
def akW:c_tword7.Ok ZF:=
 AU vV (v_Fr []) ef AI func24<|oy fun f hf hp U g=>by
 simp only[c_tword7,jY,rdZ,rdB,rdL];simp only[B8,AA,ZD]at g;simp only[vV,DH,c_tword7,B8,Ai,ZH,ZD,-eq_self,bK,g]
 .obtain⟨_,_,_,_,_,_,_,_,_,_,_,_,_,_,_,_,_,_,_,_,_,_,_,_,_,_,_,_,_,_,_,_,_,_,_,_,_,_,_,_,_,_,_,_,_,_,_,_,_,_,_,_,_,_,_,_,z0,z1,z2,z3,z4,z5,z6,z7⟩:=hf;exact zi Xs
def c_thas:Cd:=⟨9,[.agg kSta,.agg kSnap],[.one .bool],rd_Sta fun s=>rd_Snap fun x _=>[.z (AD (Ar s x))],T0⟩
def yF:Tr:=
(.call 0 [.bool] (.vs 0 171 .nil) 247
(.br (.s 247)
(.cut 0 248 []
(.br (.eq (.w 0) (.p 0))
(.call 1 [.bool] (.vs 0 9 (.cons (.w 171) .nil)) 248
(.br (.s 248)
(.next 0 .nil)
 zlF))
(.br (.eq (.f .and .i64 (.f .shr .i64 (.w 182) (.p 0)) (.p 1)) (.p 1))
(.call 1 [.bool] (.vs 0 9 (.cons (.w 171) .nil)) 248
(.br (.s 248)
(.next 0 .nil)
 zlF))
 zlF))
(.cut 1 248 []
(.br (.eq (.w 9) (.p 0))
(.call 1 [.bool] (.vs 9 9 (.cons (.w 172) .nil)) 248
(.br (.s 248)
(.next 1 .nil)
 zlF))
(.br (.eq (.f .and .i64 (.f .shr .i64 (.w 182) (.p 1)) (.p 1)) (.p 1))
(.call 1 [.bool] (.vs 9 9 (.cons (.w 172) .nil)) 248
(.br (.s 248)
(.next 1 .nil)
 zlF))
 zlF))
(.cut 2 248 []
(.br (.eq (.w 18) (.p 0))
(.call 1 [.bool] (.vs 18 9 (.cons (.w 173) .nil)) 248
(.br (.s 248)
(.next 2 .nil)
 zlF))
(.br (.eq (.f .and .i64 (.f .shr .i64 (.w 182) (.p 2)) (.p 1)) (.p 1))
(.call 1 [.bool] (.vs 18 9 (.cons (.w 173) .nil)) 248
(.br (.s 248)
(.next 2 .nil)
 zlF))
 zlF))
(.cut 3 248 []
(.br (.eq (.w 27) (.p 0))
(.call 1 [.bool] (.vs 27 9 (.cons (.w 174) .nil)) 248
(.br (.s 248)
(.next 3 .nil)
 zlF))
(.br (.eq (.f .and .i64 (.f .shr .i64 (.w 182) (.p 3)) (.p 1)) (.p 1))
(.call 1 [.bool] (.vs 27 9 (.cons (.w 174) .nil)) 248
(.br (.s 248)
(.next 3 .nil)
 zlF))
 zlF))
(.cut 4 248 []
(.br (.eq (.w 36) (.p 0))
(.call 1 [.bool] (.vs 36 9 (.cons (.w 175) .nil)) 248
(.br (.s 248)
(.next 4 .nil)
 zlF))
(.br (.eq (.f .and .i64 (.f .shr .i64 (.w 182) (.p 4)) (.p 1)) (.p 1))
(.call 1 [.bool] (.vs 36 9 (.cons (.w 175) .nil)) 248
(.br (.s 248)
(.next 4 .nil)
 zlF))
 zlF))
(.cut 5 248 []
(.br (.eq (.w 45) (.p 0))
(.call 1 [.bool] (.vs 45 9 (.cons (.w 176) .nil)) 248
(.br (.s 248)
(.next 5 .nil)
 zlF))
(.br (.eq (.f .and .i64 (.f .shr .i64 (.w 182) (.p 5)) (.p 1)) (.p 1))
(.call 1 [.bool] (.vs 45 9 (.cons (.w 176) .nil)) 248
(.br (.s 248)
(.next 5 .nil)
 zlF))
 zlF))
(.cut 6 248 []
(.br (.eq (.w 54) (.p 0))
(.call 1 [.bool] (.vs 54 9 (.cons (.w 177) .nil)) 248
(.br (.s 248)
(.next 6 .nil)
 zlF))
(.br (.eq (.f .and .i64 (.f .shr .i64 (.w 182) (.p 6)) (.p 1)) (.p 1))
(.call 1 [.bool] (.vs 54 9 (.cons (.w 177) .nil)) 248
(.br (.s 248)
(.next 6 .nil)
 zlF))
 zlF))
(.cut 7 248 []
(.br (.eq (.w 63) (.p 0))
(.call 1 [.bool] (.vs 63 9 (.cons (.w 178) .nil)) 248
(.br (.s 248)
(.next 7 .nil)
 zlF))
(.br (.eq (.f .and .i64 (.f .shr .i64 (.w 182) (.p 7)) (.p 1)) (.p 1))
(.call 1 [.bool] (.vs 63 9 (.cons (.w 178) .nil)) 248
(.br (.s 248)
(.next 7 .nil)
 zlF))
 zlF))
(.cut 8 248 []
(.br (.eq (.w 72) (.p 0))
(.call 1 [.bool] (.vs 72 9 (.cons (.w 179) .nil)) 248
(.br (.s 248)
(.next 8 .nil)
 zlF))
(.br (.eq (.f .and .i64 (.f .shr .i64 (.w 182) (.p 8)) (.p 1)) (.p 1))
(.call 1 [.bool] (.vs 72 9 (.cons (.w 179) .nil)) 248
(.br (.s 248)
(.next 8 .nil)
 zlF))
 zlF))
(.cut 9 248 []
(.br (.eq (.w 81) (.p 0))
(.call 1 [.bool] (.vs 81 9 (.cons (.w 180) .nil)) 248
(.br (.s 248)
(.next 9 .nil)
 zlF))
(.br (.eq (.f .and .i64 (.f .shr .i64 (.w 182) (.p 9)) (.p 1)) (.p 1))
(.call 1 [.bool] (.vs 81 9 (.cons (.w 180) .nil)) 248
(.br (.s 248)
(.next 9 .nil)
 zlF))
 zlF))
(.cut 10 248 []
(.br (.eq (.w 90) (.p 0))
(.call 1 [.bool] (.vs 90 9 (.cons (.w 181) .nil)) 248
(.br (.s 248)
(.next 10 .nil)
 zlF))
(.br (.eq (.f .and .i64 (.f .shr .i64 (.w 182) (.p 10)) (.p 1)) (.p 1))
(.call 1 [.bool] (.vs 90 9 (.cons (.w 181) .nil)) 248
(.br (.s 248)
(.next 10 .nil)
 zlF))
 zlF))
(.call 2 [.int .u64] (.vs 183 64 .nil) 248
(.call 1 [.bool] (.vs 99 9 (.cons (.w 248) .nil)) 249
(.br (.s 249)
(.call 3 [.int .u64] (.vs 183 64 .nil) 250
(.call 1 [.bool] (.vs 108 9 (.cons (.w 250) .nil)) 251
(.br (.s 251)
(.call 4 [.int .u64] (.vs 183 64 .nil) 252
(.call 1 [.bool] (.vs 117 9 (.cons (.w 252) .nil)) 253
(.br (.s 253)
(.call 5 [.int .u64] (.vs 183 64 .nil) 254
(.call 1 [.bool] (.vs 126 9 (.cons (.w 254) .nil)) 255
(.br (.s 255)
(.call 6 [.int .u64] (.vs 183 64 .nil) 256
(.call 1 [.bool] (.vs 135 9 (.cons (.w 256) .nil)) 257
(.br (.s 257)
(.call 7 [.int .u64] (.vs 183 64 .nil) 258
(.call 1 [.bool] (.vs 144 9 (.cons (.w 258) .nil)) 259
(.br (.s 259)
(.call 8 [.int .u64] (.vs 183 64 .nil) 260
(.call 1 [.bool] (.vs 153 9 (.cons (.w 260) .nil)) 261
(.br (.s 261)
(.call 9 [.int .u64] (.vs 183 64 .nil) 262
(.call 1 [.bool] (.vs 162 9 (.cons (.w 262) .nil)) 263
(.br (.s 263)
 zlT
 zlF)))
 zlF)))
 zlF)))
 zlF)))
 zlF)))
 zlF)))
 zlF)))
 zlF))))))))))))))
 zlF))
def apr:cg aex (FV 0 [c_tmay,c_thold,c_tword0,c_tword1,c_tword2,c_tword3,c_tword4,c_tword5,c_tword6,c_tword7]) [] [] [(10,[.top 14]++E3 [(4,4),(15,26)])] 400 f9 c_thas.a c_thas.r (tp c_thas.r) (v_Sta (v_Snap [])) yF:=E4 (by kernel_rfl)
def atc:c_thas.Ok ZF:=
 GD yF (v_Sta (v_Snap [])) ef (Am TQ<|Am aqz<|Am ak3<|Am ak2<|Am ak1<|Am ak0<|Am akZ<|Am akY<|Am akX<|Am akW AI) func9 EZ apr<|dX fun s hs=>ab5 fun x hx hp U g=>by
 have Aq:=g;simp only[c_thas,bY,fz,mC,rdZ,rdB,rdL];simp only[cd,AE,cS,B8,AA,ZD]at g;simp(maxSteps:=10000000) only[yF,Kx,c_tmay,c_thold,c_tword0,c_tword1,c_tword2,c_tword3,c_tword4,c_tword5,c_tword6,c_tword7,DH,rdZ,rdB,rdL,c_thas,cd,AE,cS,B8,Ai,ZH,ZD,-eq_self,bK,g];refine bv ?_;apply aI<;>intro c0;refine⟨fun _=>rok x.set 0 s.r0 x.r0=ZB,?_,?_⟩;apply aI<;>intro c1;refine bv ?_;apply aI<;>intro c2
 .exact gI c1 c2
 .simp only[Ar,cm (set:=x.set) (i:=0) c2,av,au]
 apply aI<;>intro c3;refine bv ?_;apply aI<;>intro c4
 .exact gG c3 c4
 .simp only[Ar,cm (set:=x.set) (i:=0) c4,av,au]
 .simp only[Ar,gH (i:=0) (v:=x.r0) c1 c3,av,au]
 intro U0 JI _ hi0;have FF:=(aZ JI _ 0 ST).trans Aq;have g0:=FF;simp only[cd,AE,cS,B8,AA,ZD]at g0;simp only[g0,-eq_self];refine⟨fun _=>rok x.set 1 s.r1 x.r1=ZB,?_,?_⟩;apply aI<;>intro c5;refine bv ?_;apply aI<;>intro c6
 .exact gI c5 c6
 .simp only[Ar,cm (set:=x.set) (i:=1) c6,av,au]
 apply aI<;>intro c7;refine bv ?_;apply aI<;>intro c8
 .exact gG c7 c8
 .simp only[Ar,cm (set:=x.set) (i:=1) c8,av,au]
 .simp only[Ar,gH (i:=1) (v:=x.r1) c5 c7,av,au]
 intro U1 A0 _ Bc;have Al:=(aZ A0 _ 0 ST).trans FF;have g1:=Al;simp only[cd,AE,cS,B8,AA,ZD]at g1;simp only[g1,-eq_self];refine⟨fun _=>rok x.set 2 s.r2 x.r2=ZB,?_,?_⟩;apply aI<;>intro c9;refine bv ?_;apply aI<;>intro BF
 .exact gI c9 BF
 .simp only[Ar,cm (set:=x.set) (i:=2) BF,av,au]
 apply aI<;>intro CF;refine bv ?_;apply aI<;>intro B9
 .exact gG CF B9
 .simp only[Ar,cm (set:=x.set) (i:=2) B9,av,au]
 .simp only[Ar,gH (i:=2) (v:=x.r2) c9 CF,av,au]
 intro U2 Cf _ Gx;have FG:=(aZ Cf _ 0 ST).trans Al;have g2:=FG;simp only[cd,AE,cS,B8,AA,ZD]at g2;simp only[g2,-eq_self];refine⟨fun _=>rok x.set 3 s.r3 x.r3=ZB,?_,?_⟩;apply aI<;>intro Cr;refine bv ?_;apply aI<;>intro CG
 .exact gI Cr CG
 .simp only[Ar,cm (set:=x.set) (i:=3) CG,av,au]
 apply aI<;>intro C1;refine bv ?_;apply aI<;>intro Dk
 .exact gG C1 Dk
 .simp only[Ar,cm (set:=x.set) (i:=3) Dk,av,au]
 .simp only[Ar,gH (i:=3) (v:=x.r3) Cr C1,av,au]
 intro U3 Bd _ Iz;have FH:=(aZ Bd _ 0 ST).trans FG;have g3:=FH;simp only[cd,AE,cS,B8,AA,ZD]at g3;simp only[g3,-eq_self];refine⟨fun _=>rok x.set 4 s.r4 x.r4=ZB,?_,?_⟩;apply aI<;>intro Df;refine bv ?_;apply aI<;>intro Dg
 .exact gI Df Dg
 .simp only[Ar,cm (set:=x.set) (i:=4) Dg,av,au]
 apply aI<;>intro Dz;refine bv ?_;apply aI<;>intro DA
 .exact gG Dz DA
 .simp only[Ar,cm (set:=x.set) (i:=4) DA,av,au]
 .simp only[Ar,gH (i:=4) (v:=x.r4) Df Dz,av,au]
 intro U4 MN _ PX;have FI:=(aZ MN _ 0 ST).trans FH;have g4:=FI;simp only[cd,AE,cS,B8,AA,ZD]at g4;simp only[g4,-eq_self];refine⟨fun _=>rok x.set 5 s.r5 x.r5=ZB,?_,?_⟩;apply aI<;>intro EM;refine bv ?_;apply aI<;>intro FY
 .exact gI EM FY
 .simp only[Ar,cm (set:=x.set) (i:=5) FY,av,au]
 apply aI<;>intro GH;refine bv ?_;apply aI<;>intro HA
 .exact gG GH HA
 .simp only[Ar,cm (set:=x.set) (i:=5) HA,av,au]
 .simp only[Ar,gH (i:=5) (v:=x.r5) EM GH,av,au]
 intro U5 L4 _ Rh;have FJ:=(aZ L4 _ 0 ST).trans FI;have g5:=FJ;simp only[cd,AE,cS,B8,AA,ZD]at g5;simp only[g5,-eq_self];refine⟨fun _=>rok x.set 6 s.r6 x.r6=ZB,?_,?_⟩;apply aI<;>intro Gd;refine bv ?_;apply aI<;>intro Jx
 .exact gI Gd Jx
 .simp only[Ar,cm (set:=x.set) (i:=6) Jx,av,au]
 apply aI<;>intro Io;refine bv ?_;apply aI<;>intro I9
 .exact gG Io I9
 .simp only[Ar,cm (set:=x.set) (i:=6) I9,av,au]
 .simp only[Ar,gH (i:=6) (v:=x.r6) Gd Io,av,au]
 intro U6 Lw _ PY;have FK:=(aZ Lw _ 0 ST).trans FJ;have g6:=FK;simp only[cd,AE,cS,B8,AA,ZD]at g6;simp only[g6,-eq_self];refine⟨fun _=>rok x.set 7 s.r7 x.r7=ZB,?_,?_⟩;apply aI<;>intro J9;refine bv ?_;apply aI<;>intro Ka
 .exact gI J9 Ka
 .simp only[Ar,cm (set:=x.set) (i:=7) Ka,av,au]
 apply aI<;>intro Kb;refine bv ?_;apply aI<;>intro Jy
 .exact gG Kb Jy
 .simp only[Ar,cm (set:=x.set) (i:=7) Jy,av,au]
 .simp only[Ar,gH (i:=7) (v:=x.r7) J9 Kb,av,au]
 intro U7 Lx _ Ri;have FL:=(aZ Lx _ 0 ST).trans FK;have g7:=FL;simp only[cd,AE,cS,B8,AA,ZD]at g7;simp only[g7,-eq_self];refine⟨fun _=>rok x.set 8 s.r8 x.r8=ZB,?_,?_⟩;apply aI<;>intro KD;refine bv ?_;apply aI<;>intro KE
 .exact gI KD KE
 .simp only[Ar,cm (set:=x.set) (i:=8) KE,av,au]
 apply aI<;>intro Ls;refine bv ?_;apply aI<;>intro LP
 .exact gG Ls LP
 .simp only[Ar,cm (set:=x.set) (i:=8) LP,av,au]
 .simp only[Ar,gH (i:=8) (v:=x.r8) KD Ls,av,au]
 intro U8 ha8 _ hi8;have FM:=(aZ ha8 _ 0 ST).trans FL;have g8:=FM;simp only[cd,AE,cS,B8,AA,ZD]at g8;simp only[g8,-eq_self];refine⟨fun _=>rok x.set 9 s.r9 x.r9=ZB,?_,?_⟩;apply aI<;>intro Kc;refine bv ?_;apply aI<;>intro Lt
 .exact gI Kc Lt
 .simp only[Ar,cm (set:=x.set) (i:=9) Lt,av,au]
 apply aI<;>intro Lu;refine bv ?_;apply aI<;>intro KF
 .exact gG Lu KF
 .simp only[Ar,cm (set:=x.set) (i:=9) KF,av,au]
 .simp only[Ar,gH (i:=9) (v:=x.r9) Kc Lu,av,au]
 intro U9 ha9 _ hi9;have FN:=(aZ ha9 _ 0 ST).trans FM;have g9:=FN;simp only[cd,AE,cS,B8,AA,ZD]at g9;simp only[g9,-eq_self];refine⟨fun _=>rok x.set 10 s.r10 x.r10=ZB,?_,?_⟩;apply aI<;>intro KG;refine bv ?_;apply aI<;>intro Kd
 .exact gI KG Kd
 .simp only[Ar,cm (set:=x.set) (i:=10) Kd,av,au]
 apply aI<;>intro Jz;refine bv ?_;apply aI<;>intro Lv
 .exact gG Jz Lv
 .simp only[Ar,cm (set:=x.set) (i:=10) Lv,av,au]
 .simp only[Ar,gH (i:=10) (v:=x.r10) KG Jz,av,au]
 intro U10 Oq _ OC;have Hg:=(aZ Oq _ 0 ST).trans FN;have QW:=Hg;simp only[cd,AE,cS,B8,AA,ZD]at QW;simp only[QW,-eq_self];refine bv ?_;refine bv ?_;apply aI<;>intro Ke;refine bv ?_;refine bv ?_;apply aI<;>intro HB;refine bv ?_;refine bv ?_;apply aI<;>intro Kf;refine bv ?_;refine bv ?_;apply aI<;>intro Kg;refine bv ?_;refine bv ?_;apply aI<;>intro Kh;refine bv ?_;refine bv ?_;apply aI<;>intro Ki;refine bv ?_;refine bv ?_;apply aI<;>intro Kj;refine bv ?_;refine bv ?_;apply aI<;>intro JA
 .simp only[Ar,be,c0,Ke,HB,Kf,Kg,Kh,Ki,Kj,JA,hi0,Bc,Gx,Iz,PX,Rh,PY,Ri,hi8,hi9,OC,Bool.and_true,Bool.true_and]
 .simp only[Ar,be,JA,av,au]
 .simp only[Ar,be,Kj,av,au]
 .simp only[Ar,be,Ki,av,au]
 .simp only[Ar,be,Kh,av,au]
 .simp only[Ar,be,Kg,av,au]
 .simp only[Ar,be,Kf,av,au]
 .simp only[Ar,be,HB,av,au]
 .simp only[Ar,be,Ke,av,au]
 .simp only[Ar,c0,av]
def qo{p:Prop}(k:q2)(h:p->q=q2:=by intro e;(try simp only[e,bK,bz,aj,aP,-eq_self]);rfl):p->q:=fun e=>(h e).symm▸k
def aoO:List (Nat×TI):=[(2,CC),
 (3,CZ),
 (38,fY),
 (39,fe),
 (46,ic),
 (48,jr),
 (50,eU),
 (52,rh),
 (53,rb),
 (54,ra),
 (56,vo)]
def pA:∀t i,(t,i)∈aoO->TIok ZF t i:=bl (DS (z:=Ev) ⟨ru,lx⟩<|DS (z:=Dw) ⟨rt,lw⟩ B1) B1 (by kernel_rfl)
def c_tacc:Cd:=⟨78,[.agg kSta,.one (.int .i64),.one (.int .i64),.one (.int .i64)],[.one .bool],rd_Sta fun s=>rdZ fun lo=>rdZ fun hi=>rdZ fun size _=>[.z (AD (BL s lo hi size))],T0⟩
def af0:Tr:=
(.br (.eq (.w 173) (.p 1))
(.br (.lt (.w 171) (.p 0))
 zlF
(.br (.lt (.w 172) (.w 171))
 zlF
(.br (.lt (.f .sub .i64 (.p 64) (.w 173)) (.w 172))
 zlF
(.call 0 [.bool] (.vs 0 171 .nil) 174
(.u (.j (.s 174) .nil))))))
(.br (.eq (.w 173) (.p 2))
(.br (.lt (.w 171) (.p 0))
 zlF
(.br (.lt (.w 172) (.w 171))
 zlF
(.br (.lt (.f .sub .i64 (.p 64) (.w 173)) (.w 172))
 zlF
(.call 0 [.bool] (.vs 0 171 .nil) 174
(.u (.j (.s 174) .nil))))))
(.br (.eq (.w 173) (.p 4))
(.br (.lt (.w 171) (.p 0))
 zlF
(.br (.lt (.w 172) (.w 171))
 zlF
(.br (.lt (.f .sub .i64 (.p 64) (.w 173)) (.w 172))
 zlF
(.call 0 [.bool] (.vs 0 171 .nil) 174
(.u (.j (.s 174) .nil))))))
(.br (.eq (.w 173) (.p 8))
(.br (.lt (.w 171) (.p 0))
 zlF
(.br (.lt (.w 172) (.w 171))
 zlF
(.br (.lt (.f .sub .i64 (.p 64) (.w 173)) (.w 172))
 zlF
(.call 0 [.bool] (.vs 0 171 .nil) 174
(.u (.j (.s 174) .nil))))))
 zlF))))
def amU:c_tacc.Ok ZF:=
 AU af0 (v_Sta [.int .i64,.int .i64,.int .i64]) pA (Am TQ AI) func78<|dX fun s hs=>fun lo Ma hi L9 size Jg hp U g=>by
 simp only[c_tacc,bY,fz,rdZ,rdB,rdL];simp only[cd,AE,AA,ZD]at g;simp(maxSteps:=10000000) only[af0,Kx,c_tmay,rdZ,rdB,rdL,c_tacc,cd,AE,Ai,ZH,ZD,-eq_self,bK,bz,aj,aP,g];apply aI<;>intro c0;apply aI<;>intro c1
 .rw[tJ c1]
 apply aI<;>intro c2
 .rw[tL c2]
 apply aI<;>intro c3
 .rw[oK c3]
 refine qo ?_
 .rw[tK (.inl c0) c1 c2,c3,Bool.not_false,Bool.true_and]
 apply aI<;>intro c4;apply aI<;>intro c5
 .rw[tJ c5]
 apply aI<;>intro c6
 .rw[tL c6]
 apply aI<;>intro c7
 .rw[oK c7]
 refine qo ?_
 .rw[tK (.inr (.inl c4)) c5 c6,c7,Bool.not_false,Bool.true_and]
 apply aI<;>intro c8;apply aI<;>intro c9
 .rw[tJ c9]
 apply aI<;>intro BF
 .rw[tL BF]
 apply aI<;>intro CF
 .rw[oK CF]
 refine qo ?_
 .rw[tK (.inr (.inr (.inl c8))) c9 BF,CF,Bool.not_false,Bool.true_and]
 apply aI<;>intro B9;apply aI<;>intro Cr
 .rw[tJ Cr]
 apply aI<;>intro CG
 .rw[tL CG]
 apply aI<;>intro C1
 .rw[oK C1]
 refine qo ?_
 .rw[tK (.inr (.inr (.inr B9))) Cr CG,C1,Bool.not_false,Bool.true_and]
 .rw[afq c0 c4 c8 B9]
def c_texa:Cd:=⟨79,[.one (.int .i64),.one (.int .i64),.one (.int .i64)],[.one (.int .i64),.one .bool],rdZ fun lo=>rdZ fun hi=>rdZ fun size _=>[.z (Ac .quo .i64 lo 8),.z (AD (DX lo hi size))],T0⟩
def anR:Tr:=(.u (.cons (.f .quo .i64 (.w 0) (.p 8)) (.j (.tt ZC) .nil)))
def afZ:Tr:=
(.br (.eq (.w 2) (.p 8))
(.br (.eq (.w 0) (.w 1))
(.u (.cons (.f .quo .i64 (.w 0) (.p 8)) (.j (.eq (.f .rem .i64 (.w 0) (.p 8)) (.p 0)) .nil)))
 anR)
 anR)
def amT:c_texa.Ok ZF:=
 AU afZ [.int .i64,.int .i64,.int .i64] pA AI func79<|fun lo Ma hi L9 size Jg hp U g=>by
 simp only[AA,ZD]at g;simp only[afZ,anR,c_texa,Ai,ZH,ZD,-eq_self,bK,bz,aj,aP,g];apply aI<;>intro c0;apply aI<;>intro c1
 .unfold DX;rw[c0,c1];rfl
 .rw[ao3 c1]
 .rw[ao4 c0]
def c_tload:Cd:=⟨37,[.agg kSta,.one (.int .i64),.one (.int .i64),.one (.int .i64)],[.agg kTy,.one (.int .i64)],rd_Sta fun s=>rdZ fun lo=>rdZ fun hi=>rdZ fun size _=>d_Ty (oG s lo hi size) [.z (pF s lo hi size)],T0⟩
def aaV:Tr:=
(.call 0 [.bool] (.vs 0 174 .nil) 174
(.br (.s 174)
(.call 1 [.int .i64,.bool] (.vs 171 3 .nil) 175
(.br (.s 176)
(.br (.eq (.w 175) (.p 0))
(.u (.vs 99 9 (.cons (.p 0) .nil)))
(.br (.eq (.w 175) (.p 1))
(.u (.vs 108 9 (.cons (.p 0) .nil)))
(.br (.eq (.w 175) (.p 2))
(.u (.vs 117 9 (.cons (.p 0) .nil)))
(.br (.eq (.w 175) (.p 3))
(.u (.vs 126 9 (.cons (.p 0) .nil)))
(.br (.eq (.w 175) (.p 4))
(.u (.vs 135 9 (.cons (.p 0) .nil)))
(.br (.eq (.w 175) (.p 5))
(.u (.vs 144 9 (.cons (.p 0) .nil)))
(.br (.eq (.w 175) (.p 6))
(.u (.vs 153 9 (.cons (.p 0) .nil)))
(.br (.eq (.w 175) (.p 7))
(.u (.vs 162 9 (.cons (.p 0) .nil)))
.panic))))))))
(.call 2 (kSc) (.cons (.w 173) .nil) 177
(.u (.cons (.p 1) (.vs 177 6 (.zs [0,0,0] .nil)))))))
(.u (.zs [0,0,0,0,0,0,0,0,0,2] .nil))))
def aqx:c_tload.Ok ZF:=
 AU aaV (v_Sta [.int .i64,.int .i64,.int .i64]) pA (Am amU<|Am amT<|Am aqt AI) func37<|dX fun s hs=>fun lo Ma hi L9 size Jg hp U g=>by
 simp only[c_tload,bY,fz,rdZ,rdB,rdL];simp only[cd,AE,AP,AA,ZD]at g;simp(maxSteps:=10000000) only[aaV,Kx,c_tacc,c_texa,c_vby,rdZ,rdB,rdL,c_tload,cd,AE,AP,Ai,ZH,ZD,-eq_self,bK,bz,aj,aP,g];refine qo ?_;apply aI<;>intro c0;refine qo ?_;apply aI<;>intro c1;apply aI<;>intro c2
 .rw[(bQ c0 c1).1,(bQ c0 c1).2,A4 c2];rfl
 apply aI<;>intro c3
 .rw[(bQ c0 c1).1,(bQ c0 c1).2,A4 c3];rfl
 apply aI<;>intro c4
 .rw[(bQ c0 c1).1,(bQ c0 c1).2,A4 c4];rfl
 apply aI<;>intro c5
 .rw[(bQ c0 c1).1,(bQ c0 c1).2,A4 c5];rfl
 apply aI<;>intro c6
 .rw[(bQ c0 c1).1,(bQ c0 c1).2,A4 c6];rfl
 apply aI<;>intro c7
 .rw[(bQ c0 c1).1,(bQ c0 c1).2,A4 c7];rfl
 apply aI<;>intro c8
 .rw[(bQ c0 c1).1,(bQ c0 c1).2,A4 c8];rfl
 apply aI<;>intro c9
 .rw[(bQ c0 c1).1,(bQ c0 c1).2,A4 c9];rfl
 .exact ag5 c0 rfl c2 c3 c4 c5 c6 c7 c8 c9
 refine qo ?_
 .rw[(nA c0 c1).1,(nA c0 c1).2];rfl
 .rw[(aaz c0).1,(aaz c0).2];rfl
def TL{p:Prop}(k:q2)(h:p->q=q2:=by intro e;(try simp only[e,bK,bz,aj,aP,-eq_self]);rfl):p->q:=fun e=>(h e).symm▸k
def aew:List (Nat×TI):=[(2,CC),
 (3,CZ),
 (38,fY),
 (39,fe),
 (46,ic),
 (48,jr),
 (50,eU),
 (52,rh),
 (53,rb),
 (54,ra),
 (56,vo)]
def aem:∀t i,(t,i)∈aew->TIok ZF t i:=bl (DS (z:=Ev) ⟨ru,lx⟩<|DS (z:=Dw) ⟨rt,lw⟩ B1) B1 (by kernel_rfl)
def c_tstore:Cd:=⟨38,[.agg kSta,.one (.int .i64),.one (.int .i64),.one (.int .i64),.agg kTy],[.agg kSta,.one (.int .i64)],rd_Sta fun s=>rdZ fun lo=>rdZ fun hi=>rdZ fun size=>rd_Ty fun t _=>d_Sta (jd s lo hi size t) [.z (nv s lo hi size t)],T0⟩
def pJ:Tr:=
(.call 0 [.bool] (.vs 0 174 .nil) 183
(.br (.s 183)
(.br (.eq (.w 174) (.p 0))
(.u (.zs [0,0,0,0,0,0,0,0,0,0,0,0,0,0,0,0,0,0,0,0,0,0,0,0,0,0,0,0,0,0,0,0,0,0,0,0,0,0,0,0,0,0,0,0,0,0,0,0,0,0,0,0,0,0,0,0,0,0,0,0,0,0,0,0,0,0,0,0,0,0,0,0,0,0,0,0,0,0,0,0,0,0,0,0,0,0,0,0,0,0,0,0,0,0,0,0,0,0,0,0,0,0,0,0,0,0,0,0,0,0,0,0,0,0,0,0,0,0,0,0,0,0,0,0,0,0,0,0,0,0,0,0,0,0,0,0,0,0,0,0,0,0,0,0,0,0,0,0,0,0,0,0,0,0,0,0,0,0,0,0,0,0,0,0,0,0,0,0,0,0,0,2] .nil))
(.call 2 [.bool] (.vs 174 9 .nil) 184
(.br (.s 184)
(.call 1 [.int .i64,.bool] (.vs 171 3 .nil) 185
(.br (.s 186)
(.br (.eq (.w 185) (.p 0))
(.u (.vs 0 99 (.vs 174 9 (.vs 108 63 (.cons (.p 0) .nil)))))
(.br (.eq (.w 185) (.p 1))
(.u (.vs 0 108 (.vs 174 9 (.vs 117 54 (.cons (.p 0) .nil)))))
(.br (.eq (.w 185) (.p 2))
(.u (.vs 0 117 (.vs 174 9 (.vs 126 45 (.cons (.p 0) .nil)))))
(.br (.eq (.w 185) (.p 3))
(.u (.vs 0 126 (.vs 174 9 (.vs 135 36 (.cons (.p 0) .nil)))))
(.br (.eq (.w 185) (.p 4))
(.u (.vs 0 135 (.vs 174 9 (.vs 144 27 (.cons (.p 0) .nil)))))
(.br (.eq (.w 185) (.p 5))
(.u (.vs 0 144 (.vs 174 9 (.vs 153 18 (.cons (.p 0) .nil)))))
(.br (.eq (.w 185) (.p 6))
(.u (.vs 0 153 (.vs 174 9 (.vs 162 9 (.cons (.p 0) .nil)))))
(.br (.eq (.w 185) (.p 7))
(.u (.vs 0 162 (.vs 174 9 (.cons (.p 0) .nil))))
.panic))))))))
(.loop 0 187 [.int .i64,.int .i8,.int .u64,.int .u64,.int .i64,.int .i64,.int .u64,.int .u64,.int .i64,.int .i64,.int .i8,.int .u64,.int .u64,.int .i64,.int .i64,.int .u64,.int .u64,.int .i64,.int .i64,.int .i8,.int .u64,.int .u64,.int .i64,.int .i64,.int .u64,.int .u64,.int .i64,.int .i64,.int .i8,.int .u64,.int .u64,.int .i64,.int .i64,.int .u64,.int .u64,.int .i64,.int .i64,.int .i8,.int .u64,.int .u64,.int .i64,.int .i64,.int .u64,.int .u64,.int .i64,.int .i64,.int .i8,.int .u64,.int .u64,.int .i64,.int .i64,.int .u64,.int .u64,.int .i64,.int .i64,.int .i8,.int .u64,.int .u64,.int .i64,.int .i64,.int .u64,.int .u64,.int .i64,.int .i64,.int .i8,.int .u64,.int .u64,.int .i64,.int .i64,.int .u64,.int .u64,.int .i64,.int .i64] (.cons (.f .quo .i64 (.w 171) (.p 8)) (.vs 99 72 .nil))
(.br (.lt (.f .quo .i64 (.f .sub .i64 (.f .add .i64 (.w 172) (.w 173)) (.p 1)) (.p 8)) (.w 187))
(.u (.vs 0 99 (.vs 188 72 (.cons (.p 0) .nil))))
(.call 3 (kTy) .nil 260
(.br (.eq (.w 187) (.p 0))
(.next 0 (.cons (.f .add .i64 (.w 187) (.p 1)) (.vs 260 9 (.vs 197 63 .nil))))
(.br (.eq (.w 187) (.p 1))
(.next 0 (.cons (.f .add .i64 (.w 187) (.p 1)) (.vs 188 9 (.vs 260 9 (.vs 206 54 .nil)))))
(.br (.eq (.w 187) (.p 2))
(.next 0 (.cons (.f .add .i64 (.w 187) (.p 1)) (.vs 188 18 (.vs 260 9 (.vs 215 45 .nil)))))
(.br (.eq (.w 187) (.p 3))
(.next 0 (.cons (.f .add .i64 (.w 187) (.p 1)) (.vs 188 27 (.vs 260 9 (.vs 224 36 .nil)))))
(.br (.eq (.w 187) (.p 4))
(.next 0 (.cons (.f .add .i64 (.w 187) (.p 1)) (.vs 188 36 (.vs 260 9 (.vs 233 27 .nil)))))
(.br (.eq (.w 187) (.p 5))
(.next 0 (.cons (.f .add .i64 (.w 187) (.p 1)) (.vs 188 45 (.vs 260 9 (.vs 242 18 .nil)))))
(.br (.eq (.w 187) (.p 6))
(.next 0 (.cons (.f .add .i64 (.w 187) (.p 1)) (.vs 188 54 (.vs 260 9 (.vs 251 9 .nil)))))
(.br (.eq (.w 187) (.p 7))
(.next 0 (.cons (.f .add .i64 (.w 187) (.p 1)) (.vs 188 63 (.vs 260 9 .nil))))
.panic)))))))))))))
(.u (.zs [0,0,0,0,0,0,0,0,0,0,0,0,0,0,0,0,0,0,0,0,0,0,0,0,0,0,0,0,0,0,0,0,0,0,0,0,0,0,0,0,0,0,0,0,0,0,0,0,0,0,0,0,0,0,0,0,0,0,0,0,0,0,0,0,0,0,0,0,0,0,0,0,0,0,0,0,0,0,0,0,0,0,0,0,0,0,0,0,0,0,0,0,0,0,0,0,0,0,0,0,0,0,0,0,0,0,0,0,0,0,0,0,0,0,0,0,0,0,0,0,0,0,0,0,0,0,0,0,0,0,0,0,0,0,0,0,0,0,0,0,0,0,0,0,0,0,0,0,0,0,0,0,0,0,0,0,0,0,0,0,0,0,0,0,0,0,0,0,0,0,0,2] .nil)))))
(.u (.zs [0,0,0,0,0,0,0,0,0,0,0,0,0,0,0,0,0,0,0,0,0,0,0,0,0,0,0,0,0,0,0,0,0,0,0,0,0,0,0,0,0,0,0,0,0,0,0,0,0,0,0,0,0,0,0,0,0,0,0,0,0,0,0,0,0,0,0,0,0,0,0,0,0,0,0,0,0,0,0,0,0,0,0,0,0,0,0,0,0,0,0,0,0,0,0,0,0,0,0,0,0,0,0,0,0,0,0,0,0,0,0,0,0,0,0,0,0,0,0,0,0,0,0,0,0,0,0,0,0,0,0,0,0,0,0,0,0,0,0,0,0,0,0,0,0,0,0,0,0,0,0,0,0,0,0,0,0,0,0,0,0,0,0,0,0,0,0,0,0,0,0,2] .nil))))
def agw:cg aew (FV 0 [c_tacc,c_texa,c_ttok,c_tscal]) [] [(8,[.tmpI 14 .i64,.cI 0 99 .i8,.cI 0 100 .u64,.cI 0 101 .u64,.cI 0 102 .i64,.cI 0 103 .i64,.cI 0 104 .u64,.cI 0 105 .u64,.cI 0 106 .i64,.cI 0 107 .i64,.cI 0 108 .i8,.cI 0 109 .u64,.cI 0 110 .u64,.cI 0 111 .i64,.cI 0 112 .i64,.cI 0 113 .u64,.cI 0 114 .u64,.cI 0 115 .i64,.cI 0 116 .i64,.cI 0 117 .i8,.cI 0 118 .u64,.cI 0 119 .u64,.cI 0 120 .i64,.cI 0 121 .i64,.cI 0 122 .u64,.cI 0 123 .u64,.cI 0 124 .i64,.cI 0 125 .i64,.cI 0 126 .i8,.cI 0 127 .u64,.cI 0 128 .u64,.cI 0 129 .i64,.cI 0 130 .i64,.cI 0 131 .u64,.cI 0 132 .u64,.cI 0 133 .i64,.cI 0 134 .i64,.cI 0 135 .i8,.cI 0 136 .u64,.cI 0 137 .u64,.cI 0 138 .i64,.cI 0 139 .i64,.cI 0 140 .u64,.cI 0 141 .u64,.cI 0 142 .i64,.cI 0 143 .i64,.cI 0 144 .i8,.cI 0 145 .u64,.cI 0 146 .u64,.cI 0 147 .i64,.cI 0 148 .i64,.cI 0 149 .u64,.cI 0 150 .u64,.cI 0 151 .i64,.cI 0 152 .i64,.cI 0 153 .i8,.cI 0 154 .u64,.cI 0 155 .u64,.cI 0 156 .i64,.cI 0 157 .i64,.cI 0 158 .u64,.cI 0 159 .u64,.cI 0 160 .i64,.cI 0 161 .i64,.cI 0 162 .i8,.cI 0 163 .u64,.cI 0 164 .u64,.cI 0 165 .i64,.cI 0 166 .i64,.cI 0 167 .u64,.cI 0 168 .u64,.cI 0 169 .i64,.cI 0 170 .i64]++E3 [(0,2),(4,1),(6,4),(11,3),(15,46)])] [] 200 f38 c_tstore.a c_tstore.r (tp c_tstore.r) (v_Sta (.int .i64::.int .i64::.int .i64::v_Ty [])) pJ:=E4 (by kernel_rfl)
def ak4:c_tstore.Ok ZF:=
 GD pJ (v_Sta (.int .i64::.int .i64::.int .i64::v_Ty [])) aem (Am amU<|Am amT<|Am W9<|Am qu AI) func38 EZ agw<|dX fun s hs=>fun lo Ma hi L9 size Jg=>bL fun t ht hp U g=>by
 have Aq:=g;simp only[c_tstore,bY,fz,rdZ,rdB,rdL];simp only[cd,AE,AA,ZD]at g;simp(maxSteps:=10000000) only[pJ,Kx,c_tacc,c_texa,c_ttok,c_tscal,rdZ,rdB,rdL,c_tstore,cd,AE,Ai,ZH,ZD,-eq_self,bK,bz,aj,aP,g];refine TL ?_;apply aI<;>intro c0;apply aI<;>intro c1
 .rw[(iD (.inr (WP c1))).1,(iD (.inr (WP c1))).2];rfl
 refine TL ?_;apply aI<;>intro c2;refine TL ?_;apply aI<;>intro c3;apply aI<;>intro c4
 .have e:=A4 c4;rw[(bj c0 (eh c1 c2) c3).1,(bj c0 (eh c1 c2) c3).2,e];rfl
 apply aI<;>intro c5
 .have e:=A4 c5;rw[(bj c0 (eh c1 c2) c3).1,(bj c0 (eh c1 c2) c3).2,e];rfl
 apply aI<;>intro c6
 .have e:=A4 c6;rw[(bj c0 (eh c1 c2) c3).1,(bj c0 (eh c1 c2) c3).2,e];rfl
 apply aI<;>intro c7
 .have e:=A4 c7;rw[(bj c0 (eh c1 c2) c3).1,(bj c0 (eh c1 c2) c3).2,e];rfl
 apply aI<;>intro c8
 .have e:=A4 c8;rw[(bj c0 (eh c1 c2) c3).1,(bj c0 (eh c1 c2) c3).2,e];rfl
 apply aI<;>intro c9
 .have e:=A4 c9;rw[(bj c0 (eh c1 c2) c3).1,(bj c0 (eh c1 c2) c3).2,e];rfl
 apply aI<;>intro BF
 .have e:=A4 BF;rw[(bj c0 (eh c1 c2) c3).1,(bj c0 (eh c1 c2) c3).2,e];rfl
 apply aI<;>intro CF
 .have e:=A4 CF;rw[(bj c0 (eh c1 c2) c3).1,(bj c0 (eh c1 c2) c3).2,e];rfl
 .exact ag5 c0 rfl c4 c5 c6 c7 c8 c9 BF CF
 obtain⟨q1,q2,q3,q4,q5⟩:=nz c0;refine⟨fun ds=>∃n:Int,ds=.z n::arZ (BC s (CN (lo / 8) n) tscal)/\lo / 8<=n/\n<=(hi+size-1) / 8+1,fun ds=>(100-dI ds 0).toNat,⟨lo / 8,by rw[O9 q2 Fn,ae5 (fun k h0 h1=>by unfold CN;simp)];try rfl,by omega,by omega⟩,?_⟩;intro U1 A0 _ Bc;obtain⟨n,Br,r1,r2⟩:=Bc;simp only[arZ,Be,Dt.z.injEq,ZD,and_true]at Br;have Al:=(aZ A0 _ 0 ST).trans Aq;have g1:=Al;simp only[cd,AE,AA,ZD]at g1;simp only[g1,Br,-eq_self];apply aI<;>intro B9
 .have h9:=Ah B9;have q6:=(rm c0).1;rw[q6]at h9;rw[(lG c0 (eh c1 c2) c3).1,(lG c0 (eh c1 c2) c3).2,<-aq7 c0 (n:=n) Fn Fn];rfl
 refine TL ?_;apply aI<;>intro Cr
 .have h9:=Ab B9;have q6:=(rm c0).1;rw[q6]at h9;have e:=A4 Cr;subst e;refine⟨⟨1,?_,by omega,by omega⟩,?_⟩
  .rw[aj8 (q:=CN (lo / 8) 1) (p:=CN (lo / 8) 0) (fun k _ _=>hZ (n:=0) Fn)];rfl
  .show(100-(1:Int)).toNat<(100-(0:Int)).toNat;decide
 apply aI<;>intro CG
 .have h9:=Ab B9;have q6:=(rm c0).1;rw[q6]at h9;have e:=A4 CG;subst e;refine⟨⟨2,?_,by omega,by omega⟩,?_⟩
  .rw[aj7 (q:=CN (lo / 8) 2) (p:=CN (lo / 8) 1) (fun k _ _=>hZ (n:=1) Fn)];rfl
  .show(100-(2:Int)).toNat<(100-(1:Int)).toNat;decide
 apply aI<;>intro C1
 .have h9:=Ab B9;have q6:=(rm c0).1;rw[q6]at h9;have e:=A4 C1;subst e;refine⟨⟨3,?_,by omega,by omega⟩,?_⟩
  .rw[aj6 (q:=CN (lo / 8) 3) (p:=CN (lo / 8) 2) (fun k _ _=>hZ (n:=2) Fn)];rfl
  .show(100-(3:Int)).toNat<(100-(2:Int)).toNat;decide
 apply aI<;>intro Dk
 .have h9:=Ab B9;have q6:=(rm c0).1;rw[q6]at h9;have e:=A4 Dk;subst e;refine⟨⟨4,?_,by omega,by omega⟩,?_⟩
  .rw[aj5 (q:=CN (lo / 8) 4) (p:=CN (lo / 8) 3) (fun k _ _=>hZ (n:=3) Fn)];rfl
  .show(100-(4:Int)).toNat<(100-(3:Int)).toNat;decide
 apply aI<;>intro Df
 .have h9:=Ab B9;have q6:=(rm c0).1;rw[q6]at h9;have e:=A4 Df;subst e;refine⟨⟨5,?_,by omega,by omega⟩,?_⟩
  .rw[aj4 (q:=CN (lo / 8) 5) (p:=CN (lo / 8) 4) (fun k _ _=>hZ (n:=4) Fn)];rfl
  .show(100-(5:Int)).toNat<(100-(4:Int)).toNat;decide
 apply aI<;>intro Dg
 .have h9:=Ab B9;have q6:=(rm c0).1;rw[q6]at h9;have e:=A4 Dg;subst e;refine⟨⟨6,?_,by omega,by omega⟩,?_⟩
  .rw[aj3 (q:=CN (lo / 8) 6) (p:=CN (lo / 8) 5) (fun k _ _=>hZ (n:=5) Fn)];rfl
  .show(100-(6:Int)).toNat<(100-(5:Int)).toNat;decide
 apply aI<;>intro Dz
 .have h9:=Ab B9;have q6:=(rm c0).1;rw[q6]at h9;have e:=A4 Dz;subst e;refine⟨⟨7,?_,by omega,by omega⟩,?_⟩
  .rw[aj2 (q:=CN (lo / 8) 7) (p:=CN (lo / 8) 6) (fun k _ _=>hZ (n:=6) Fn)];rfl
  .show(100-(7:Int)).toNat<(100-(6:Int)).toNat;decide
 apply aI<;>intro DA
 .have h9:=Ab B9;have q6:=(rm c0).1;rw[q6]at h9;have e:=A4 DA;subst e;refine⟨⟨8,?_,by omega,by omega⟩,?_⟩
  .rw[aj1 (q:=CN (lo / 8) 8) (p:=CN (lo / 8) 7) (fun k _ _=>hZ (n:=7) Fn)];rfl
  .show(100-(8:Int)).toNat<(100-(7:Int)).toNat;decide
 .have h9:=Ab B9;have q6:=(rm c0).1;rw[q6]at h9;simp only[jJ]at Cr CG C1 Dk Df Dg Dz DA;omega
 .rw[(iD (.inr (ama c2))).1,(iD (.inr (ama c2))).2];rfl
 .rw[(iD (.inl c0)).1,(iD (.inl c0)).2];rfl
def av9(x:Ins):c_vrd.F (d_Ins x [])=[.z (Dy x)]:=by show[Dt.z (Dy ⟨x.k,x.op,x.w,x.sz,AD x.br==1,x.d,x.s,x.off,x.imm⟩)]=_;rw[b2i_one]
def auy(i:Int)(x:Ins):c_itgt.F (.z i::d_Ins x [])=[.z (AO i x).1,.z (AD (AO i x).2)]:=by show[Dt.z (AO i ⟨x.k,x.op,x.w,x.sz,AD x.br==1,x.d,x.s,x.off,x.imm⟩).1,.z (AD (AO i ⟨x.k,x.op,x.w,x.sz,AD x.br==1,x.d,x.s,x.off,x.imm⟩).2)]=_;rw[b2i_one]
def auv(x:Ins)(a b:Ty):c_valu.F (.l (EV x)::d_Ty a (d_Ty b []))=d_Ty (Dv x a b) []:=by show d_Ty (Dv (ab (EV x) 0) a b) []=_;rw[ah2]
def anv(c:Int)(l:LL)(x:Ins)(t:Ty):c_vacc.F (.z c::.l l::.l (EV x)::d_Ty t [])=[.z (Il t x),.z (Ik t x),.z (AD (aG c t x.off x.sz))]:=by show[Dt.z (Ac .add .i64 t.lo (ab (EV x) 0).off),.z (Ac .add .i64 t.hi (ab (EV x) 0).off),.z (AD (aG c t (ab (EV x) 0).off (ab (EV x) 0).sz))]=_;rw[ah2];rfl
def arz(s:Sta)(lo hi z:Int):c_tload.F (d_Sta s [.z lo,.z hi,.z z])=d_Ty (oG s lo hi z) [.z (pF s lo hi z)]:=by simp only[c_tload];rw[bY];rfl
def alX(s:Sta)(lo hi z:Int)(t:Ty):c_tstore.F (d_Sta s (.z lo::.z hi::.z z::d_Ty t []))=d_Sta (jd s lo hi z t) [.z (nv s lo hi z t)]:=by simp only[c_tstore];rw[bY];rfl
def avq(h:k<64):Ac .add .i64 (k:Int) 1=((k+1:Nat):Int):=by show IntKind.i64.wrap _=_;rw[aT];omega
def Vm(U:Env)(n:Nat):Sc:=⟨U.i n,U.i (n+1),U.i (n+2),U.i (n+3),U.i (n+4),U.i (n+5)⟩
def UI(U:Env)(n:Nat)(t:E):(E.vs n 6 t).D U=d_Sc (Vm U n) (t.D U):=by kernel_rfl
def awb(U:Env)(e:E)(n:Nat)(t:E):(E.tn e (n+1) 6 t).D U=d_Sc (Ao (Du U n) (e.I U)).s (t.D U):=by kernel_rfl
def auR(U:Env)(n:Nat):Vm U (n+1)=(Da U n).s:=by kernel_rfl
def aq6{s:Sc}{r:List Dt}(h:eqs U (d_Sc s r) v0 0 (kSc++ks)):Vm U v0=s/\eqs U (d_Sc s r) v0 6 ks:=by obtain⟨h0,h1,h2,h3,h4,h5,h6⟩:=h;refine⟨?_,h6⟩;have e0:U.i v0=s.ul:=h0;have e1:U.i (v0+1)=s.uh:=h1;have e2:U.i (v0+2)=s.sl:=h2;have e3:U.i (v0+3)=s.sh:=h3;have e4:U.i (v0+4)=s.v:=h4;have e5:U.i (v0+5)=s.m:=h5;unfold Vm;rw[e0,e1,e2,e3,e4,e5]
def aus(cc:Int)(a b:Sc):c_vgiv.F (.z cc::d_Sc a (d_Sc b []))=d_Sc (Eu cc a b) [.z (AD (DI cc a b))]:=rfl
def ajh(s:Sc):c_vsca.F (d_Sc s [])=d_Ty (DQ s) []:=rfl
def awa(q:Int):c_vby.F [.z q]=d_Sc (Db q) []:=rfl
def aur(q:Int):c_vone.F [.z q]=d_Sc (Cb q) []:=rfl
section
variable {k:Int}{x:Ins}{s b':Sta}{b:Ty}
def ajB(h:x.k=4\/x.k=6):gF k x s b=[]:=ae h
def zV(h4:x.k≠4)(h6:x.k≠6)(ht:(iw x s b&&gD x.op)=ZC):gF k x s b=[(Ac .add .i64 k 1,s)]:=by unfold gF C0;rw[aa (fun h=>h.elim h4 h6),ht];rfl
def ad4(h4:x.k≠4)(h6:x.k≠6)(ht:(iw x s b&&gD x.op)=ZB):gF k x s b=C0 s x.d (Ao s x.d) b ZB (Ac .add .i64 k 1) (iu x.op) ZB:=by unfold gF;rw[aa (fun h=>h.elim h4 h6)];rw[ne]at ht;rw[ht.1,ht.2]
def ajA(h:(AO k x).2=ZC):ib k x s b=[]:=aa X3
def ajz(h:(AO k x).2=ZB)(ht:iw x s b=ZC):ib k x s b=[((AO k x).1,s)]:=by unfold ib C0;rw[ae h,ht];rfl
def ad1(h:(AO k x).2=ZB)(ht:iw x s b=ZB):ib k x s b=C0 s x.d (Ao s x.d) b ZB (AO k x).1 x.op ZB:=by unfold ib;rw[ae h,ht]
end
def aoZ(h:aR z=ZB):ZG .i64 z=z:=by unfold aR at h;simp only[fy,cQ]at h;rw[aT];omega
def jb(x:Ins):Bool:=!(x.k==4) &&!(x.k==6)
def uZ(h:jb x=ZB):x.k≠4/\x.k≠6:=by unfold jb at h;simpa using h
def ajG(h:jb x=ZC):x.k=4\/x.k=6:=by
 unfold jb at h;by_cases h4:x.k=4
 .exact .inl h4
 .exact .inr (by simpa[h4]using h)
def aN{p:Prop}(k:q2)(h:p->q=q2:=by intro e;(try simp only[e,bK,-eq_self]);rfl):p->q:=fun e=>(h e).symm▸k
def ya:List (Nat×TI):=[(2,CC),
 (3,CZ),
 (38,fY),
 (39,fe),
 (46,ic),
 (48,jr),
 (50,PI),
 (52,aaj),
 (53,rb),
 (54,ra),
 (56,vo)]
def eZ:∀t i,(t,i)∈ya->TIok ZF t i:=bl B1 B1 (by kernel_rfl)
def c_tjjoin:Cd:=⟨46,[.agg kTy,.agg kTy,.one (.fn 47),.one .bool],[.agg kTy],rd_Ty fun a=>rd_Ty fun b=>rdB fun t _=>d_Ty (ek ZC t a b) [],T0⟩
def anQ:Tr:=(.u (.cons (.w 0) (.zs [0,0,0,0,0,0] (.cons (.mn (.w 7) (.w 16)) (.cons (.mx (.w 8) (.w 17)) .nil)))))
def wh:Tr:=
(.br (.eq (.w 0) (.p 0))
(.u (.zs [0,0,0,0,0,0,0,0,0] .nil))
(.br (.eq (.w 9) (.p 0))
(.u (.zs [0,0,0,0,0,0,0,0,0] .nil))
(.br (.eq (.w 0) (.w 9))
(.br (.eq (.w 0) (.p 1))
(.call 1 (kSc) (.vs 1 6 (.vs 10 6 .nil)) 19
(.u (.cons (.w 0) (.vs 19 6 (.cons (.p 0) (.cons (.p 0) .nil))))))
(.br (.s 18)
(.br (.lt (.mn (.w 7) (.w 16)) (.w 7))
(.br (.lt (.w 8) (.mx (.w 8) (.w 17)))
(.u (.cons (.w 0) (.zs [0,0,0,0,0,0,-1048576,1048576] .nil)))
(.u (.cons (.w 0) (.zs [0,0,0,0,0,0,-1048576] (.cons (.mx (.w 8) (.w 17)) .nil)))))
(.br (.lt (.w 8) (.mx (.w 8) (.w 17)))
(.u (.cons (.w 0) (.zs [0,0,0,0,0,0] (.cons (.mn (.w 7) (.w 16)) (.cons (.p 1048576) .nil)))))
 anQ))
 anQ))
(.call 0 (kTy) .nil 19
(.u (.vs 19 9 .nil))))))
def ak6:c_tjjoin.Ok ZF:=
 AU wh (v_Ty (v_Ty [.bool])) eZ (Am qu<|Am aqp AI) func46<|bL fun a ha=>bL fun b hb=>fun t hp U g=>by
 simp only[AE,AP,AA,ZD]at g;simp only[wh,anQ,c_tscal,c_vjoin,c_tjjoin,AE,AP,Ai,ZH,ZD,-eq_self,bK,g];apply aI<;>intro c0
 .rw[Pf c0];try rfl
 apply aI<;>intro c1
 .rw[Pg c1];try rfl
 apply aI<;>intro c2;apply aI<;>intro c3;refine aN ?_
 .rw[Pe c0 c1 c2 c3];try rfl
 apply aI<;>intro c4;apply aI<;>intro c5;apply aI<;>intro c6
 .rw[FW c0 c1 c2 c3,Ub c4 c5,Ui c4 c6];try rfl
 .rw[FW c0 c1 c2 c3,Ub c4 c5,Uj c6];try rfl
 apply aI<;>intro c7
 .rw[FW c0 c1 c2 c3,Uc c5,Ui c4 c7];try rfl
 .rw[FW c0 c1 c2 c3,Uc c5,Uj c7];try rfl
 .rw[FW c0 c1 c2 c3,arR c4,arW c4];try rfl
 refine aN ?_
 .rw[aoR c0 c1 c2];try rfl
def c_tcjoin:Cd:=⟨45,[.agg kTy,.agg kTy],[.agg kTy],rd_Ty fun a=>rd_Ty fun b _=>d_Ty (cP ZC a b) [],T0⟩
def wl:Tr:=
(.call 0 (kTy) (.vs 0 18 (.j (.tt ZC) .nil)) 18
(.u (.vs 18 9 .nil)))
def ak9:c_tcjoin.Ok ZF:=
 AU wl (v_Ty (v_Ty [])) eZ (Am ak6 AI) func45<|bL fun a ha=>bL fun b hb hp U g=>by
 simp only[AE,AA,ZD]at g;simp only[wl,c_tjjoin,c_tcjoin,AE,Ai,ZH,ZD,-eq_self,bK,g];refine aN ?_
 .rfl
def c_tejoin:Cd:=⟨44,[.agg kSta,.agg kSta,.one (.fn 45)],[.agg kSta,.one (.int .i64)],rd_Sta fun a=>rd_Sta fun b _=>d_Sta (iO ZC a b) [.z (FT a b)],T0⟩
def pK:Tr:=
(.call 0 [.bool] (.vs 0 171 .nil) 342
(.br (.s 342)
(.call 0 [.bool] (.vs 171 171 .nil) 343
(.br (.s 343)
(.call 1 (kTy) (.vs 0 9 (.vs 171 9 .nil)) 344
(.call 1 (kTy) (.vs 9 9 (.vs 180 9 .nil)) 353
(.call 1 (kTy) (.vs 18 9 (.vs 189 9 .nil)) 362
(.call 1 (kTy) (.vs 27 9 (.vs 198 9 .nil)) 371
(.call 1 (kTy) (.vs 36 9 (.vs 207 9 .nil)) 380
(.call 1 (kTy) (.vs 45 9 (.vs 216 9 .nil)) 389
(.call 1 (kTy) (.vs 54 9 (.vs 225 9 .nil)) 398
(.call 1 (kTy) (.vs 63 9 (.vs 234 9 .nil)) 407
(.call 1 (kTy) (.vs 72 9 (.vs 243 9 .nil)) 416
(.call 1 (kTy) (.vs 81 9 (.vs 252 9 .nil)) 425
(.call 1 (kTy) (.vs 90 9 (.vs 261 9 .nil)) 434
(.call 1 (kTy) (.vs 99 9 (.vs 270 9 .nil)) 443
(.call 1 (kTy) (.vs 108 9 (.vs 279 9 .nil)) 452
(.call 1 (kTy) (.vs 117 9 (.vs 288 9 .nil)) 461
(.call 1 (kTy) (.vs 126 9 (.vs 297 9 .nil)) 470
(.call 1 (kTy) (.vs 135 9 (.vs 306 9 .nil)) 479
(.call 1 (kTy) (.vs 144 9 (.vs 315 9 .nil)) 488
(.call 1 (kTy) (.vs 153 9 (.vs 324 9 .nil)) 497
(.call 1 (kTy) (.vs 162 9 (.vs 333 9 .nil)) 506
(.u (.vs 344 171 (.cons (.p 0) .nil))))))))))))))))))))))
(.u (.zs [0,0,0,0,0,0,0,0,0,0,0,0,0,0,0,0,0,0,0,0,0,0,0,0,0,0,0,0,0,0,0,0,0,0,0,0,0,0,0,0,0,0,0,0,0,0,0,0,0,0,0,0,0,0,0,0,0,0,0,0,0,0,0,0,0,0,0,0,0,0,0,0,0,0,0,0,0,0,0,0,0,0,0,0,0,0,0,0,0,0,0,0,0,0,0,0,0,0,0,0,0,0,0,0,0,0,0,0,0,0,0,0,0,0,0,0,0,0,0,0,0,0,0,0,0,0,0,0,0,0,0,0,0,0,0,0,0,0,0,0,0,0,0,0,0,0,0,0,0,0,0,0,0,0,0,0,0,0,0,0,0,0,0,0,0,0,0,0,0,0,0,2] .nil))))
(.u (.zs [0,0,0,0,0,0,0,0,0,0,0,0,0,0,0,0,0,0,0,0,0,0,0,0,0,0,0,0,0,0,0,0,0,0,0,0,0,0,0,0,0,0,0,0,0,0,0,0,0,0,0,0,0,0,0,0,0,0,0,0,0,0,0,0,0,0,0,0,0,0,0,0,0,0,0,0,0,0,0,0,0,0,0,0,0,0,0,0,0,0,0,0,0,0,0,0,0,0,0,0,0,0,0,0,0,0,0,0,0,0,0,0,0,0,0,0,0,0,0,0,0,0,0,0,0,0,0,0,0,0,0,0,0,0,0,0,0,0,0,0,0,0,0,0,0,0,0,0,0,0,0,0,0,0,0,0,0,0,0,0,0,0,0,0,0,0,0,0,0,0,0,2] .nil))))
def agx:cg ya (FV 0 [c_tmay,c_tcjoin]) [] [] [] 200 f44 c_tejoin.a c_tejoin.r (tp c_tejoin.r) (v_Sta (v_Sta [])) pK:=E4 (by kernel_rfl)
def ak8:c_tejoin.Ok ZF:=
 GD pK (v_Sta (v_Sta [])) eZ (Am TQ<|Am ak9 AI) func44 EZ agx<|dX fun a ha=>dX fun b hb hp U g=>by
 simp only[c_tejoin,bY,fz,rdZ,rdB,rdL];simp only[cd,AE,AA,ZD]at g;simp(maxSteps:=10000000) only[pK,Kx,c_tmay,c_tcjoin,rdZ,rdB,rdL,c_tejoin,cd,AE,Ai,ZH,ZD,-eq_self,bK,g];refine aN ?_;apply aI<;>intro c0;refine aN ?_;apply aI<;>intro c1;refine aN ?_;refine aN ?_;refine aN ?_;refine aN ?_;refine aN ?_;refine aN ?_;refine aN ?_;refine aN ?_;refine aN ?_;refine aN ?_;refine aN ?_;refine aN ?_;refine aN ?_;refine aN ?_;refine aN ?_;refine aN ?_;refine aN ?_;refine aN ?_;refine aN ?_
 .rw[(oh c0 c1).1,(oh (w:=ZB) c0 c1).2];rfl
 .rw[(vN (.inr c1)).1,(vN (w:=ZB) (.inr c1)).2];rfl
 .rw[(vN (.inl c0)).1,(vN (w:=ZB) (.inl c0)).2];rfl
def c_tsjoin:Cd:=⟨16,[.agg kSta,.agg kSta],[.agg kSta,.one (.int .i64)],rd_Sta fun a=>rd_Sta fun b _=>d_Sta (iO ZC a b) [.z (FT a b)],T0⟩
def wg:Tr:=
(.call 0 (kSta++[.int .i64]) (.vs 0 342 .nil) 342
(.u (.vs 342 172 .nil)))
def ak5:c_tsjoin.Ok ZF:=
 AU wg (v_Sta (v_Sta [])) eZ (Am ak8 AI) func16<|dX fun a ha=>dX fun b hb hp U g=>by
 simp only[c_tsjoin,bY,fz,rdZ,rdB,rdL];simp only[cd,AE,AA,ZD]at g;simp(maxSteps:=10000000) only[wg,Kx,c_tejoin,rdZ,rdB,rdL,c_tsjoin,cd,AE,Ai,ZH,ZD,-eq_self,bK,g];refine aN ?_
 .rfl
def c_tjwid:Cd:=⟨46,[.agg kTy,.agg kTy,.one (.fn 49),.one .bool],[.agg kTy],rd_Ty fun a=>rd_Ty fun b=>rdB fun t _=>d_Ty (ek ZB t a b) [],T0⟩
def anP:Tr:=(.u (.cons (.w 0) (.zs [0,0,0,0,0,0] (.cons (.mn (.w 7) (.w 16)) (.cons (.mx (.w 8) (.w 17)) .nil)))))
def aaW:Tr:=
(.br (.eq (.w 0) (.p 0))
(.u (.zs [0,0,0,0,0,0,0,0,0] .nil))
(.br (.eq (.w 9) (.p 0))
(.u (.zs [0,0,0,0,0,0,0,0,0] .nil))
(.br (.eq (.w 0) (.w 9))
(.br (.eq (.w 0) (.p 1))
(.call 1 (kSc) (.vs 1 6 (.vs 10 6 .nil)) 19
(.u (.cons (.w 0) (.vs 19 6 (.cons (.p 0) (.cons (.p 0) .nil))))))
(.br (.s 18)
(.br (.lt (.mn (.w 7) (.w 16)) (.w 7))
(.br (.lt (.w 8) (.mx (.w 8) (.w 17)))
(.u (.cons (.w 0) (.zs [0,0,0,0,0,0,-1048576,1048576] .nil)))
(.u (.cons (.w 0) (.zs [0,0,0,0,0,0,-1048576] (.cons (.mx (.w 8) (.w 17)) .nil)))))
(.br (.lt (.w 8) (.mx (.w 8) (.w 17)))
(.u (.cons (.w 0) (.zs [0,0,0,0,0,0] (.cons (.mn (.w 7) (.w 16)) (.cons (.p 1048576) .nil)))))
 anP))
 anP))
(.call 0 (kTy) .nil 19
(.u (.vs 19 9 .nil))))))
def aqy:c_tjwid.Ok ZF:=
 AU aaW (v_Ty (v_Ty [.bool])) eZ (Am qu<|Am asZ AI) func46<|bL fun a ha=>bL fun b hb=>fun t hp U g=>by
 simp only[AE,AP,AA,ZD]at g;simp only[aaW,anP,c_tscal,c_vwid,c_tjwid,AE,AP,Ai,ZH,ZD,-eq_self,bK,g];apply aI<;>intro c0
 .rw[Pf c0];try rfl
 apply aI<;>intro c1
 .rw[Pg c1];try rfl
 apply aI<;>intro c2;apply aI<;>intro c3;refine aN ?_
 .rw[Pe c0 c1 c2 c3];try rfl
 apply aI<;>intro c4;apply aI<;>intro c5;apply aI<;>intro c6
 .rw[FW c0 c1 c2 c3,Ub c4 c5,Ui c4 c6];try rfl
 .rw[FW c0 c1 c2 c3,Ub c4 c5,Uj c6];try rfl
 apply aI<;>intro c7
 .rw[FW c0 c1 c2 c3,Uc c5,Ui c4 c7];try rfl
 .rw[FW c0 c1 c2 c3,Uc c5,Uj c7];try rfl
 .rw[FW c0 c1 c2 c3,arR c4,arW c4];try rfl
 refine aN ?_
 .rw[aoR c0 c1 c2];try rfl
def c_tcwid:Cd:=⟨48,[.agg kTy,.agg kTy],[.agg kTy],rd_Ty fun a=>rd_Ty fun b _=>d_Ty (cP ZB a b) [],T0⟩
def aaY:Tr:=
(.call 0 (kTy) (.vs 0 18 (.j (.tt ZB) .nil)) 18
(.u (.vs 18 9 .nil)))
def aqB:c_tcwid.Ok ZF:=
 AU aaY (v_Ty (v_Ty [])) eZ (Am aqy AI) func48<|bL fun a ha=>bL fun b hb hp U g=>by
 simp only[AE,AA,ZD]at g;simp only[aaY,c_tjwid,c_tcwid,AE,Ai,ZH,ZD,-eq_self,bK,g];refine aN ?_
 .rfl
def c_tewid:Cd:=⟨44,[.agg kSta,.agg kSta,.one (.fn 48)],[.agg kSta,.one (.int .i64)],rd_Sta fun a=>rd_Sta fun b _=>d_Sta (iO ZB a b) [.z (FT a b)],T0⟩
def tP:Tr:=
(.call 0 [.bool] (.vs 0 171 .nil) 342
(.br (.s 342)
(.call 0 [.bool] (.vs 171 171 .nil) 343
(.br (.s 343)
(.call 1 (kTy) (.vs 0 9 (.vs 171 9 .nil)) 344
(.call 1 (kTy) (.vs 9 9 (.vs 180 9 .nil)) 353
(.call 1 (kTy) (.vs 18 9 (.vs 189 9 .nil)) 362
(.call 1 (kTy) (.vs 27 9 (.vs 198 9 .nil)) 371
(.call 1 (kTy) (.vs 36 9 (.vs 207 9 .nil)) 380
(.call 1 (kTy) (.vs 45 9 (.vs 216 9 .nil)) 389
(.call 1 (kTy) (.vs 54 9 (.vs 225 9 .nil)) 398
(.call 1 (kTy) (.vs 63 9 (.vs 234 9 .nil)) 407
(.call 1 (kTy) (.vs 72 9 (.vs 243 9 .nil)) 416
(.call 1 (kTy) (.vs 81 9 (.vs 252 9 .nil)) 425
(.call 1 (kTy) (.vs 90 9 (.vs 261 9 .nil)) 434
(.call 1 (kTy) (.vs 99 9 (.vs 270 9 .nil)) 443
(.call 1 (kTy) (.vs 108 9 (.vs 279 9 .nil)) 452
(.call 1 (kTy) (.vs 117 9 (.vs 288 9 .nil)) 461
(.call 1 (kTy) (.vs 126 9 (.vs 297 9 .nil)) 470
(.call 1 (kTy) (.vs 135 9 (.vs 306 9 .nil)) 479
(.call 1 (kTy) (.vs 144 9 (.vs 315 9 .nil)) 488
(.call 1 (kTy) (.vs 153 9 (.vs 324 9 .nil)) 497
(.call 1 (kTy) (.vs 162 9 (.vs 333 9 .nil)) 506
(.u (.vs 344 171 (.cons (.p 0) .nil))))))))))))))))))))))
(.u (.zs [0,0,0,0,0,0,0,0,0,0,0,0,0,0,0,0,0,0,0,0,0,0,0,0,0,0,0,0,0,0,0,0,0,0,0,0,0,0,0,0,0,0,0,0,0,0,0,0,0,0,0,0,0,0,0,0,0,0,0,0,0,0,0,0,0,0,0,0,0,0,0,0,0,0,0,0,0,0,0,0,0,0,0,0,0,0,0,0,0,0,0,0,0,0,0,0,0,0,0,0,0,0,0,0,0,0,0,0,0,0,0,0,0,0,0,0,0,0,0,0,0,0,0,0,0,0,0,0,0,0,0,0,0,0,0,0,0,0,0,0,0,0,0,0,0,0,0,0,0,0,0,0,0,0,0,0,0,0,0,0,0,0,0,0,0,0,0,0,0,0,0,2] .nil))))
(.u (.zs [0,0,0,0,0,0,0,0,0,0,0,0,0,0,0,0,0,0,0,0,0,0,0,0,0,0,0,0,0,0,0,0,0,0,0,0,0,0,0,0,0,0,0,0,0,0,0,0,0,0,0,0,0,0,0,0,0,0,0,0,0,0,0,0,0,0,0,0,0,0,0,0,0,0,0,0,0,0,0,0,0,0,0,0,0,0,0,0,0,0,0,0,0,0,0,0,0,0,0,0,0,0,0,0,0,0,0,0,0,0,0,0,0,0,0,0,0,0,0,0,0,0,0,0,0,0,0,0,0,0,0,0,0,0,0,0,0,0,0,0,0,0,0,0,0,0,0,0,0,0,0,0,0,0,0,0,0,0,0,0,0,0,0,0,0,0,0,0,0,0,0,2] .nil))))
def akt:cg ya (FV 0 [c_tmay,c_tcwid]) [] [] [] 200 f44 c_tewid.a c_tewid.r (tp c_tewid.r) (v_Sta (v_Sta [])) tP:=E4 (by kernel_rfl)
def aqA:c_tewid.Ok ZF:=
 GD tP (v_Sta (v_Sta [])) eZ (Am TQ<|Am aqB AI) func44 EZ akt<|dX fun a ha=>dX fun b hb hp U g=>by
 simp only[c_tewid,bY,fz,rdZ,rdB,rdL];simp only[cd,AE,AA,ZD]at g;simp(maxSteps:=10000000) only[tP,Kx,c_tmay,c_tcwid,rdZ,rdB,rdL,c_tewid,cd,AE,Ai,ZH,ZD,-eq_self,bK,g];refine aN ?_;apply aI<;>intro c0;refine aN ?_;apply aI<;>intro c1;refine aN ?_;refine aN ?_;refine aN ?_;refine aN ?_;refine aN ?_;refine aN ?_;refine aN ?_;refine aN ?_;refine aN ?_;refine aN ?_;refine aN ?_;refine aN ?_;refine aN ?_;refine aN ?_;refine aN ?_;refine aN ?_;refine aN ?_;refine aN ?_;refine aN ?_
 .rw[(oh c0 c1).1,(oh (w:=ZB) c0 c1).2];rfl
 .rw[(vN (.inr c1)).1,(vN (w:=ZB) (.inr c1)).2];rfl
 .rw[(vN (.inl c0)).1,(vN (w:=ZB) (.inl c0)).2];rfl
def c_tswid:Cd:=⟨17,[.agg kSta,.agg kSta],[.agg kSta,.one (.int .i64)],rd_Sta fun a=>rd_Sta fun b _=>d_Sta (iO ZB a b) [.z (FT a b)],T0⟩
def aaT:Tr:=
(.call 0 (kSta++[.int .i64]) (.vs 0 342 .nil) 342
(.u (.vs 342 172 .nil)))
def aqw:c_tswid.Ok ZF:=
 AU aaT (v_Sta (v_Sta [])) eZ (Am aqA AI) func17<|dX fun a ha=>dX fun b hb hp U g=>by
 simp only[c_tswid,bY,fz,rdZ,rdB,rdL];simp only[cd,AE,AA,ZD]at g;simp(maxSteps:=10000000) only[aaT,Kx,c_tewid,rdZ,rdB,rdL,c_tswid,cd,AE,Ai,ZH,ZD,-eq_self,bK,g];refine aN ?_
 .rfl
end Go.Proofs.YtgolejfhoefeaaaGreatDoor
