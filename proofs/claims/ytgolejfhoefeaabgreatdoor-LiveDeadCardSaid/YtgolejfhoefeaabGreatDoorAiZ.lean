import Derived.Test.YtgolejfhoefeaabGreatDoorAhZ
import Derived.Test.YtgolejfhoefeaabGreatDoorAgZ
import Derived.Test.YtgolejfhoefeaabGreatDoorProg
import Derived.Laws.Externs
set_option maxRecDepth 100000
set_option maxHeartbeats 8000000
set_option linter.defProp false
set_option linter.unusedSimpArgs false
set_option linter.unusedVariables false
namespace Go.Proofs.YtgolejfhoefeaabGreatDoor
open Option renaming some->ZA,none->ZD
open Bool renaming true->ZB,false->ZC
open Nat renaming reduceAdd->ZE,reduceSub->YI
open Go.Proofs.Tryz renaming prog->ZF
open Go.IntKind renaming wrap->ZG
open List renaming nil_append->ZM,cons_append->YN,mem_cons->ZN,append_nil->YO,flatMap_cons->ZO,length_take->YQ,length_set->YU,length_drop->ZV,flatMap_nil->YW,mem_append_right->ZW,mem_append_left->YZ
open Int renaming ofNat_lt->YP
open Go.Proofs.Tryz
open Go Go.RowKit
variable {p:Prog}{n k v0 key m:Nat}{left d fu z v c:Int}{ρ ρ':Env}{x:Ins}{q q2:Prop}{s a b S:Sta}{cx an L T A:LL}{t:Ty}{w:Bool}{ks:List CK}{fr:List Int}{args:E}
def asR(h:bc z=ZB):ZG .i64 z=z:=by have:=lz h;exact Gl Fn Fn
def aoj{off size:Int}(hv:0<=v/\v<=18446744073709551615)(hc:0<=c/\c<=256)(ht:bm t v=ZB)(hw:aG c t off size=ZB):
  (t.k=2\/t.k=3)/\bc size=ZB/\∃o:Int,Gm v off=bT t+o/\0<=o/\o+size<=(if t.k=2 then c else 64)/\Ac .add .i64 t.lo off<=o/\o<=Ac .add .i64 t.hi off/\Ac .add .i64 t.lo off=t.lo+off/\Ac .add .i64 t.hi off=t.hi+off:=by
 unfold aG BK at hw;simp only[ne,ax]at hw;obtain⟨h1,h2,⟨⟨h3,h4⟩,⟨h5,h6⟩,h7,h8⟩,h9,HU,Gr⟩:=hw;have hk:=o8.1 h1;obtain⟨_,t1,t2⟩:=(yM hk).1 ht;refine⟨hk,h2,EN t v+off,?_,by omega,?_,?_,?_,Gl Fn Fn,Gl Fn Fn⟩
 .have hb:bT t=2097152\/bT t=3145728:=by
   unfold bT;split
   .exact .inl rfl
   .exact .inr rfl
  rw[ud]at t1 t2 ⊢;show IntKind.u64.wrap (v+ZG .u64 off)=_;rw[bg,bg];split at Gr<;>omega
 .exact Fn
 .rw[show Ac .add .i64 t.lo off=t.lo+off from Gl Fn Fn];omega
 .rw[show Ac .add .i64 t.hi off=t.hi+off from Gl Fn Fn];omega
def anB{m:Ms}(hf:m.fm.length=64):∀(n i:Nat),i+n<=64->Ce ((m.fm.drop i).take n)=Br (eb m) (i:Int) n
 |0,i,_=>rfl
 |n+1,i,h=>by have hi:i<m.fm.length:=Fn;rw[List.drop_eq_getElem_cons hi,List.take_succ_cons];show m.fm[i].getD 0 0+256*Ce ((m.fm.drop (i+1)).take n)=dk (eb m) i+256*Br (eb m) ((i:Int)+1) n;rw[anB hf n (i+1) Fn,ny m Fn Fn];unfold gt;rw[cy,bh (l:=m.fm),Az hi];rfl
def tL{m:Ms}(W:WM p m)(i:Int):0<=dk (eb m) i/\dk (eb m) i<=255:=by
 by_cases h:0<=i/\i<=63
 .rw[ny m h.1 h.2];exact ajr W.fm i
 .have e:dk (eb m) i=0:=by
   unfold dk
   repeat rw[aa Fn]
  rw[e];exact⟨Int.le_refl _,by decide⟩
def Ms.fit{m:Ms}(W:WM p m)(hc:0<=p.ctx/\p.ctx<=256):m.mem.Lim:=(an5 (c:=m.cx) (f:=m.fm) (by have:=W.cl;omega) W.fl).lim
def set_set{m:Ms}(W:WM p m)(d0:0<=d)(d1:d<=10)(v:Int):(m.set d v).set d v=m.set d v:=by
 obtain⟨n,hn,Ap⟩:=W.st;obtain⟨e,rfl⟩:=cj d0;have pe:(2:Nat) ^ e<2048:=Nat.pow_lt_pow_right Os (by omega:e<11);have h1:(m.set (e:Int) v).st=((n ||| 2 ^ e:Nat):Int):=by show Ac .or .i64 m.st (AC (e:Int))=_;rw[hn,rE e Fn,Mg Ap pe]
 have h2:((m.set (e:Int) v).set (e:Int) v).st=(m.set (e:Int) v).st:=by show Ac .or .i64 (m.set (e:Int) v).st (AC (e:Int))=_;rw[h1,rE e Fn,Mg (Nat.or_lt_two_pow (n:=11) Ap pe) pe,Nat.or_assoc,Nat.or_self]
 have h3:((m.set (e:Int) v).set (e:Int) v).rg=(m.set (e:Int) v).rg:=List.set_set ..;show(⟨((m.set (e:Int) v).set (e:Int) v).rg,((m.set (e:Int) v).set (e:Int) v).st,m.pc,m.an,m.tr,m.cx,m.fm⟩:Ms)=⟨(m.set (e:Int) v).rg,(m.set (e:Int) v).st,m.pc,m.an,m.tr,m.cx,m.fm⟩;rw[h2,h3]
def aqY{m:Ms}(hx:AL x=ZB)(hk:x.k=1)(hc:0<=p.ctx/\p.ctx<=256)(W:WM p m)(G:GA s)(H:SH s m)(he:(BB p x s).2=0):
  Fa m.mem (Gm (m.r x.s) x.off) (ZG .i64 x.sz)=0/\SH (BB p x s).1 (m.set x.d (Ea m.mem (Gm (m.r x.s) x.off) (ZG .i64 x.sz)))/\WM p (m.set x.d (Ea m.mem (Gm (m.r x.s) x.off) (ZG .i64 x.sz))):=by
 obtain⟨d0,d1,s0,s1,_⟩:=aZ hx;have GM:=G.mid (p:=p) d0 d1 s0 s1 he;unfold BB at he GM ⊢;rw[aa Fn,ae hk]at he GM ⊢;by_cases hw:aG p.ctx (Al s x.s) x.off x.sz=ZB
 rotate_left
 .rw[aa hw]at he;cases he
 rw[ae hw]at he GM ⊢;obtain⟨kt,hs,o,ha,o0,o1,lo,hi,S6,S5⟩:=aoj (W.r _) hc (H.reg s0 s1).2 hw;have hz:=asR hs;have hn:=lz hs;rw[hz,ha];have lim:=Ms.fit W hc;obtain⟨n,KL⟩:=cj (show 0<=x.sz by omega);obtain⟨oN,hoN⟩:=cj o0;have row:∃l:LL,m.mem.Row (bT (Al s x.s)) l/\inr (bT (Al s x.s)) l (bT (Al s x.s)+o) x.sz=ZB/\RowsIn [ZA .u8] l/\((Al s x.s).k=3->l=m.fm):=by
  rcases kt with kt|kt
  .refine⟨m.cx,?_,?_,W.cx,fun h=>by omega⟩
   .unfold bT;rw[ae kt];exact .inr (.inl ⟨rfl,rfl⟩)
   .rw[ae kt]at o1;exact jY.2 ⟨by omega,by have:=W.cl;omega⟩
  .refine⟨m.fm,?_,?_,W.fm,fun _=>rfl⟩
   .unfold bT;rw[aa Fn];exact .inr (.inr (.inl ⟨rfl,rfl⟩))
   .rw[aa Fn]at o1;exact jY.2 ⟨by omega,by have:=W.fl;omega⟩
 obtain⟨l,hr,A6,hu8,hfm⟩:=row;obtain⟨r0,r1⟩:=as8 lim hr A6 hs;have AE:(BH (bT (Al s x.s)) l (bT (Al s x.s)+o) x.sz).length=n:=by have:=(jY.1 A6).2;unfold BH;rw[YQ,ZV];omega
 have hv:0<=Ce (BH (bT (Al s x.s)) l (bT (Al s x.s)+o) x.sz)/\Ce (BH (bT (Al s x.s)) l (bT (Al s x.s)+o) x.sz)<256 ^ (BH (bT (Al s x.s)) l (bT (Al s x.s)+o) x.sz).length:=zI (wZ (mr hu8 _) _);rw[AE]at hv;have Ic:bm (DH (C5 x.sz)) (Ea m.mem (bT (Al s x.s)+o) x.sz)=ZB:=by rw[r1];exact iN (tX hn hv.1 (by rw[show x.sz.toNat=n by omega];exact hv.2))
 have O5:0<=Ea m.mem (bT (Al s x.s)+o) x.sz/\Ea m.mem (bT (Al s x.s)+o) x.sz<=18446744073709551615:=by
  rw[r1];refine⟨hv.1,?_⟩;have:(256:Int) ^ n<=256 ^ 8:=by
   have h8:n<=8:=Fn;have:=Nat.pow_le_pow_right (show 0<256 by decide) h8
   exact_mod_cast this
  have h9:(256:Int) ^ 8=18446744073709551616:=Os;omega
 refine⟨r0,?_,W.set d0 d1 O5⟩;have G1:GA (BU s x.d (DH (C5 x.sz))):=G.reg (sP _) _;have H1:=H.sets W d0 d1 Ic G1;unfold Rj at he GM ⊢;by_cases k3:(Al s x.s).k=3
 .rw[ae k3]at he GM ⊢;have hf:=hfm k3;have Qs:BL (BU s x.d (DH (C5 x.sz))) (HM (Al s x.s) x) (HL (Al s x.s) x) x.sz=ZB:=by
   cases e:BL (BU s x.d (DH (C5 x.sz))) (HM (Al s x.s) x) (HL (Al s x.s) x) x.sz with
   |true=>rfl
   |false=>have Gx:qa (BU s x.d (DH (C5 x.sz))) (HM (Al s x.s) x) (HL (Al s x.s) x) x.sz=0:=he;unfold qa at Gx;rw[e,aa (by simp)]at Gx;cases Gx
  have En:Ea m.mem (bT (Al s x.s)+o) x.sz=Br (eb (m.set x.d (Ea m.mem (bT (Al s x.s)+o) x.sz))) o x.sz.toNat:=by
   have e1:Br (eb (m.set x.d (Ea m.mem (bT (Al s x.s)+o) x.sz))) o x.sz.toNat=Br (eb m) o x.sz.toNat:=kl _ _ fun j h0 h1=>by rw[aa Fn]at o1;rw[ny _ Fn Fn,ny _ Fn Fn];rfl
   rw[e1,r1,hf];unfold BH;rw[hoN,KL,cy,<-anB W.fl n oN (by rw[aa Fn]at o1;omega)];congr 2;congr 1;omega
  have q:=af9 Qs H1 (fun i=>tL (W.set d0 d1 O5) i) lo hi;rw[<-En]at q;have H2:=H1.sets (W.set d0 d1 O5) d0 d1 q GM;rw[set_set W d0 d1]at H2;exact H2
 .rw[aa k3];exact H1
def auU(h0:0<=v)(h1:v<=18446744073709551615)(k:Nat)(hk:k<=7):SW v k=aT v (k:Int):=by
 have:k=0\/k=1\/k=2\/k=3\/k=4\/k=5\/k=6\/k=7:=Fn;have H:∀(s:Nat),s<=56->ZG .u8 (Ac .shr .u64 v (s:Int))=v / 2 ^ s % 256:=by
  intro s hs;have e:Ac .shr .u64 v (s:Int)=v / 2 ^ s:=by show v.fdiv (2 ^ min (s:Int).toNat IntKind.u64.bits)=_;rw[show min (s:Int).toNat IntKind.u64.bits=s by simp[IntKind.bits];omega];exact Int.fdiv_eq_ediv_of_nonneg _ (by exact Int.le_of_lt (Int.pow_pos Os))
  rw[e,w_u8]
 rcases this with rfl|rfl|rfl|rfl|rfl|rfl|rfl|rfl
 .exact H 0 Os
 .exact H 8 Os
 .exact H 16 Os
 .exact H 24 Os
 .exact H 32 Os
 .exact H 40 Os
 .exact H 48 Os
 .exact H 56 Os
def afz(y:Snap)(hk:k<=7):bU y k=Br y (8*(k:Int)) 8:=by
 have:k=0\/k=1\/k=2\/k=3\/k=4\/k=5\/k=6\/k=7:=Fn;rcases this with rfl|rfl|rfl|rfl|rfl|rfl|rfl|rfl
 .exact(pM y).symm
 .exact(pL y).symm
 .exact(pK y).symm
 .exact(pJ y).symm
 .exact(pI y).symm
 .exact(pH y).symm
 .exact(pG y).symm
 .exact(pF y).symm
def SH.put{m:Ms}(W:WM p m){o:Nat}(hn:o+n<=64)(n8:n<=8)(hv:0<=v/\v<=18446744073709551615)(h:EJ s (C8 (eb m) (o:Int) v (n:Int))=ZB):SH s {m with fm:=putL m.fm o v n}:=by
 obtain⟨h1,h2,h3⟩:=(abe _ _).1 h;refine(hC _ _).2 ⟨h1,fun j hj=> ?_,fun k hk=> ?_⟩
 .have q:=h2 j hj;rw[show xr (C8 (eb m) (o:Int) v (n:Int)) j=xr (eb m) j from rfl,Oa m hj]at q;exact q
 .have q:=h3 k hk;rw[afz _ hk]at q ⊢;rw[kl (x:=eb {m with fm:=putL m.fm o v n}) (y:=C8 (eb m) (o:Int) v (n:Int)) 8 _ fun j j0 j1=> ?_]
  .exact q
  .obtain⟨i,rfl⟩:=cj (show 0<=j by omega);rw[ny _ Fn Fn,lT _ _ _ _ _ Fn Fn,ny _ Fn Fn];show gt (putL m.fm o v n) (i:Int) 0=_;rw[aiQ W.fm o v i n (by rw[W.fl];omega)];by_cases c:o<=i/\i<o+n
   .rw[ae c,ae Fn,auU hv.1 hv.2 _ Fn];congr 1;omega
   .rw[aa c,aa Fn]
def akA{m:Ms}(hx:AL x=ZB)(hk:x.k=2)(hc:0<=p.ctx/\p.ctx<=256)(W:WM p m)(G:GA s)(H:SH s m)(he:(BB p x s).2=0):
  EL m (Gm (m.r x.d) x.off) (ZG .i64 x.sz)=ZB/\SH (BB p x s).1 (dv m x)/\WM p (dv m x):=by
 obtain⟨d0,d1,s0,s1,_⟩:=aZ hx;unfold BB at he ⊢;rw[aa Fn,aa Fn,ae hk]at he ⊢;by_cases hw:aG p.ctx (Al s x.d) x.off x.sz=ZB
 rotate_left
 .rw[aa hw]at he;cases he
 rw[ae hw]at he ⊢;obtain⟨kt,hs,o,ha,o0,o1,lo,hi,S6,S5⟩:=aoj (W.r _) hc (H.reg d0 d1).2 hw;have hz:=asR hs;have hn:=lz hs;obtain⟨n,KL⟩:=cj (show 0<=x.sz by omega);obtain⟨oN,hoN⟩:=cj o0;have hb:dv m x={m with cx:=Jn m (bT (Al s x.d)+o) x.sz (m.r x.s),fm:=Hw m (bT (Al s x.d)+o) x.sz (m.r x.s)}:=by unfold dv;rw[aa Fn,aa Fn,ae hk,hz,ha]
 rw[hb,hz,ha];have OS:RowsIn [ZA .u8] (Jn m (bT (Al s x.d)+o) x.sz (m.r x.s)):=by
  unfold Jn;split
  .exact mG W.cx _ _ _
  .exact W.cx
 have hfx:RowsIn [ZA .u8] (Hw m (bT (Al s x.d)+o) x.sz (m.r x.s)):=by
  unfold Hw;split
  .exact mG W.fm _ _ _
  .exact W.fm
 refine⟨?_,?_,⟨W.rl,W.rv,W.st,W.an,OS,by rw[show({m with cx:=Jn m (bT (Al s x.d)+o) x.sz (m.r x.s),fm:=Hw m (bT (Al s x.d)+o) x.sz (m.r x.s)}:Ms).cx.length=m.cx.length from afJ _ _ _ _];exact W.cl,hfx,(afI _ _ _ _).trans W.fl⟩⟩
 .unfold EL;rw[eu];unfold bT;rcases kt with kt|kt
  .rw[ae kt]at o1 ⊢;exact .inl (jY.2 ⟨by omega,by have:=W.cl;omega⟩)
  .rw[aa Fn]at o1 ⊢;exact .inr (jY.2 ⟨by omega,by have:=W.fl;omega⟩)
 .unfold Rn at he ⊢;by_cases k3:(Al s x.d).k=3
  .rw[ae k3]at he ⊢;rw[aa Fn]at o1;have hq:BL s (HM (Al s x.d) x) (HL (Al s x.d) x) x.sz=ZB/\tset (Al s x.s)=ZB:=by
    have Gx:nJ s (HM (Al s x.d) x) (HL (Al s x.d) x) x.sz (Al s x.s)=0:=he;unfold nJ at Gx;by_cases c:BL s (HM (Al s x.d) x) (HL (Al s x.d) x) x.sz=ZB/\tset (Al s x.s)=ZB
    .exact c
    .rw[aa c]at Gx;cases Gx
   have q:=adn hq.1 hq.2 H (fun i=>tL W i) lo hi (H.reg s0 s1).2 (W.r _).1 (W.r _).2;have e1:Hw m (bT (Al s x.d)+o) x.sz (m.r x.s)=putL m.fm oN (m.r x.s) n:=by
    have Qu:bT (Al s x.d)=3145728:=by unfold bT;rw[aa Fn]
    unfold Hw;rw[Qu,ae (jY.2 ⟨by omega,by have:=W.fl;omega⟩)];congr 1<;>omega
   rw[e1];rw[hoN,KL]at q;rw[KL];exact SH.put W Fn Fn (W.r _) q
  .rw[aa k3];have k2:(Al s x.d).k=2:=kt.resolve_right k3;rw[ae k2]at o1;have e1:Hw m (bT (Al s x.d)+o) x.sz (m.r x.s)=m.fm:=by
    have Qu:bT (Al s x.d)=2097152:=by unfold bT;rw[ae k2]
    unfold Hw;rw[Qu,gz (by have:=W.fl;omega)];rfl
   rw[e1];exact H
def rT{cc w a b:Int}(h:gE cc=ZB):lh (im cc) w a b=(!lh cc w a b)/\DQ (im cc) 64=ZB:=by
 unfold gE at h;rw[ne,ax,ax]at h;have hc:cc=0\/cc=1\/cc=2\/cc=3\/cc=4\/cc=5\/cc=6\/cc=7\/cc=8\/cc=9:=Fn;rcases hc with rfl|rfl|rfl|rfl|rfl|rfl|rfl|rfl|rfl|rfl
 all_goals
  refine⟨?_,by decide⟩;simp[lh,im,bne]
  try (rw[ar];simp)
 all_goals first|done|omega
def SH.fine{m:Ms}(H:SH s m)(d0:0<=d)(hb:Lt m.st d=ZB)(ht:bm t (m.r d)=ZB)(hm:AV (BU s d t)=ZB):SH (BU s d t) m:=by
 obtain⟨_,h2,h3⟩:=(hC s m).1 H;refine(hC _ _).2 ⟨hm,fun j hj=> ?_,fun k hk=>h3 k hk⟩;rw[aaR s _ t hj];by_cases c:d=(j:Int)
 .subst c;rw[beq_self_eq_true,amP];unfold rok;rw[hb,ht];simp
 .rw[jq.2 c,amQ];exact h2 j hj
def arC(h:AL x=ZB)(hk:x.k=3):DQ x.op 64=ZB:=by unfold AL at h;rw[ne,ne]at h;have q:=h.2.1;unfold cE at q;rw[aa Fn,aa Fn,aa Fn,ae hk]at q;have q:(decide (0<=x.op)&&decide (x.op<=10))=ZB:=q;unfold DQ;rw[q];rfl
def zU{i:Int}(hx:AL x=ZB)(hk:x.k=3\/x.k=4)(h0:0<=i)(h1:i<1099511627776):(AD i x).2=ZB:=by have hd:=aZ hx;rw[R7 hk (by rw[ne,ax,ax];omega) (by rw[ne,ax,ax];omega)]
def amI{m:Ms}(hx:AL x=ZB)(hk:x.k=3)(W:WM p m)(G:GA s)(H:SH s m)(hu:fH s (C7 x).toNat=ZC){cc go:Int}{kn:Bool}(Cq:kn=ZB->DQ cc 64=ZB/\lh cc 64 (m.r x.d) (m.sec x)=ZB):
  ∃q∈CW s x.d (Al s x.d) (cA x s) (iq x s (cA x s)) go cc kn,q.1=go/\SH q.2 m:=by
 obtain⟨d0,d1,s0,s1,_⟩:=aZ hx;unfold CW;by_cases ht:(iq x s (cA x s)&&kn)=ZB
 .rw[ae ht];rw[ne]at ht;obtain⟨ht,hkn⟩:=ht;unfold iq at ht;rw[ne,ne,cb,cb]at ht;obtain⟨_,ka,kb⟩:=ht;obtain⟨q1,q2⟩:=zf hx W H;obtain⟨r1,r2⟩:=H.reg d0 d1;obtain⟨g1,g2⟩:=akh (G.nth d0 d1).wf (G.b2 s0 s1).wf (W.r _) q2 (kp r2 ka) (kp q1 (Bs kb)) (Cq hkn).1 (Cq hkn).2;rw[ae g1];exact⟨_,cV.2 rfl,rfl,H.fine d0 (r1.resolve_left Fn) (iN g2) ((G.reg (an1 (G.nth d0 d1).wf (G.b2 s0 s1).wf) _).may)⟩
 .rw[aa ht];exact⟨_,cV.2 rfl,rfl,H⟩
def ary{m:Ms}(hx:AL x=ZB)(hk:x.k=3)(W:WM p m)(G:GA s)(H:SH s m)(hu:fH s (C7 x).toNat=ZC)(h0:0<=m.pc)(h1:m.pc<1099511627776):
  ∃q∈gH m.pc x s (cA x s)++hG m.pc x s (cA x s),q.1=ET m x/\SH q.2 m:=by
 have hc:=arC hx hk;unfold ET;cases hh:lh x.op 64 (m.r x.d) (m.sec x)with
 |true=>rw[ae (.inr ⟨hk,by unfold xS;rw[hc,hh];rfl⟩)];obtain⟨q,hq,e1,e2⟩:=amI hx hk W G H hu (go:=(AD m.pc x).1) (cc:=x.op) (kn:=ZB) (fun _=>⟨hc,hh⟩);refine⟨q,ZW _ ?_,e1,e2⟩;unfold hG;rw[ae (zU hx (.inl hk) h0 h1)];exact hq
 |false=>
   rw[aa (fun e=>by
    rcases e with e|e
    .exact Fn
    .have:=e.2;unfold xS at this;rw[hh,Bool.and_false]at this;cases this)]
   obtain⟨q,hq,e1,e2⟩:=amI hx hk W G H hu (go:=Ac .add .i64 m.pc 1) (cc:=im x.op) (kn:=gE x.op) (fun h=>⟨(rT (w:=64) (a:=m.r x.d) (b:=m.sec x) h).2,by rw[(rT h).1,hh];rfl⟩);refine⟨q,YZ _ ?_,e1,e2⟩;unfold gH;rw[aa Fn];exact hq
def apV{m:Ms}(hp:p.l.length<=maxLen)(Ai:(aH p).2=0)(W:WM p m)(h0:0<=m.pc)(h1:m.pc<(p.l.length:Int))(G:GA s)(H:SH s m)(he:(bA p m.pc s).2=0):
  halt p m≠3/\(halt p m=0->WM p (De p m)/\∃q∈(bA p m.pc s).1,q.1=(De p m).pc/\SH q.2 (De p m)):=by
 have hx:=xD hp Ai h0 h1;have hc:=qT Ai;obtain⟨⟨_,_,Tu⟩,_⟩:=bj hp Ai;obtain⟨d0,d1,s0,s1,_,_,k0,k6⟩:=aZ hx;unfold bA at he ⊢;by_cases hu:fH s (C7 (ab p.l m.pc)).toNat=ZB
 .rw[ae hu]at he;cases he
 rw[aa hu]at he ⊢;have hu:fH s (C7 (ab p.l m.pc)).toNat=ZC:=XW;by_cases hm:(BB p (ab p.l m.pc) s).2=0
 rotate_left
 .rw[aa hm]at he;exact(hm he).elim
 rw[ae hm];have hw:=alu hx W H hu;show halt p m≠3/\(halt p m=0->WM p (De p m)/\∃q∈gH m.pc (ab p.l m.pc) (BB p (ab p.l m.pc) s).1 (cA (ab p.l m.pc) s)++hG m.pc (ab p.l m.pc) (BB p (ab p.l m.pc) s).1 (cA (ab p.l m.pc) s),q.1=(De p m).pc/\SH q.2 (De p m));have on:(ab p.l m.pc).k≠3->(ab p.l m.pc).k≠4->(ab p.l m.pc).k≠6->∀s1,SH s1 (dv m (ab p.l m.pc))->∃q∈gH m.pc (ab p.l m.pc) s1 (cA (ab p.l m.pc) s)++hG m.pc (ab p.l m.pc) s1 (cA (ab p.l m.pc) s),q.1=(De p m).pc/\SH q.2 (De p m):=fun h3 h4 h6 s1 hs=>by
  refine⟨(Ac .add .i64 m.pc 1,s1),YZ _ ?_,?_,hs⟩
  .unfold gH CW iq;rw[aa Fn,show((ab p.l m.pc).k==3)=ZC from jq.2 h3];exact cV.2 rfl
  .show _=ET m (ab p.l m.pc);unfold ET;rw[aa Fn]
 have wm:WM p (dv m (ab p.l m.pc))->WM p (De p m):=fun h=>⟨h.rl,h.rv,h.st,h.an,h.cx,h.cl,h.fm,h.fl⟩
 have hk:(ab p.l m.pc).k=0\/(ab p.l m.pc).k=1\/(ab p.l m.pc).k=2\/(ab p.l m.pc).k=3\/(ab p.l m.pc).k=4\/(ab p.l m.pc).k=5\/(ab p.l m.pc).k=6:=Fn;rcases hk with hk|hk|hk|hk|hk|hk|hk
 ·
  have hh:=qU hw (.inl hk);have hb:dv m (ab p.l m.pc)=m.set (ab p.l m.pc).d (ML (ab p.l m.pc).op (ab p.l m.pc).w (m.r (ab p.l m.pc).d) (m.sec (ab p.l m.pc))):=by unfold dv;rw[ae hk]
  have GM:=G.mid (p:=p) d0 d1 s0 s1 hm;have hv:BB p (ab p.l m.pc) s=(BU s (ab p.l m.pc).d (Do (ab p.l m.pc) (Al s (ab p.l m.pc).d) (cA (ab p.l m.pc) s)),0):=by unfold BB;rw[ae hk]
  rw[hv]at GM ⊢;have hd:=au4 hx hk W G H hu;refine⟨by omega,fun _=>⟨wm ?_,on Fn Fn Fn _ ?_⟩⟩
  .rw[hb];refine W.set d0 d1 ?_;have ho:=acB hx hk;unfold ML;rw[ae ho];obtain⟨_,sb⟩:=zf hx W H;exact fc _ _ _ _ (W.r _).1 (W.r _).2 sb.1 sb.2
  .rw[hb];exact H.sets W d0 d1 hd GM
 ·
  obtain⟨l1,l2,l3⟩:=aqY hx hk hc W G H hm;have hh:=aiM hw hk l1;have hb:dv m (ab p.l m.pc)=m.set (ab p.l m.pc).d (Ea m.mem (Gm (m.r (ab p.l m.pc).s) (ab p.l m.pc).off) (ZG .i64 (ab p.l m.pc).sz)):=by unfold dv;rw[aa Fn,ae hk]
  refine⟨by omega,fun _=>⟨wm (hb▸l3),on Fn Fn Fn _ (hb▸l2)⟩⟩
 ·
  obtain⟨l1,l2,l3⟩:=akA hx hk hc W G H hm;have hh:=TF hw hk rfl rfl l1;exact⟨by omega,fun _=>⟨wm l3,on Fn Fn Fn _ l2⟩⟩
 ·
  have hh:=qU hw (.inr (.inl hk));have hb:dv m (ab p.l m.pc)=m:=by unfold dv;rw[aa Fn,aa Fn,aa Fn,aa Fn]
  have hv:BB p (ab p.l m.pc) s=(s,0):=by unfold BB;rw[aa Fn,aa Fn,aa Fn,aa Fn]
  rw[hv];refine⟨by omega,fun _=>⟨wm (hb.symm▸W),?_⟩⟩;obtain⟨q,q1,q2,q3⟩:=ary hx hk W G H hu h0 Fn;refine⟨q,q1,q2,?_⟩;show SH q.2 {dv m (ab p.l m.pc)with pc:=ET m (ab p.l m.pc)};rw[hb];exact q3
 ·
  have hh:=qU hw (.inr (.inr hk));have hb:dv m (ab p.l m.pc)=m:=by unfold dv;rw[aa Fn,aa Fn,aa Fn,aa Fn]
  have hv:BB p (ab p.l m.pc) s=(s,0):=by unfold BB;rw[aa Fn,aa Fn,aa Fn,aa Fn]
  rw[hv];refine⟨by omega,fun _=>⟨wm (hb.symm▸W),((AD m.pc (ab p.l m.pc)).1,s),ZW _ ?_,?_,?_⟩⟩
  .unfold hG CW iq;rw[ae (zU hx (.inr hk) h0 Fn),show((ab p.l m.pc).k==3)=ZC from jq.2 Fn];exact cV.2 rfl
  .show _=ET m (ab p.l m.pc);unfold ET;rw[ae (.inl hk)]
  .show SH s {dv m (ab p.l m.pc)with pc:=ET m (ab p.l m.pc)};rw[hb];exact H
 ·
  by_cases ha:m.an.length=0
  .have hh:=aiN hw hk ha;exact⟨by omega,fun h=>by omega⟩
  have hh:=aiO hw hk ha;have hb:dv m (ab p.l m.pc)=m.call (ab p.l m.pc):=by unfold dv;rw[aa Fn,aa Fn,aa Fn,ae hk]
  have hv:BB p (ab p.l m.pc) s=(Pd s,0):=by unfold BB;rw[aa Fn,aa Fn,aa Fn,ae hk]
  rw[hv];obtain⟨q1,q2⟩:=ar4 (x:=ab p.l m.pc) W G H ha;exact⟨by omega,fun _=>⟨wm (hb▸q2),on Fn Fn Fn _ (hb▸q1)⟩⟩
 ·
  have hh:=anX hw hk;exact⟨by omega,fun h=>by omega⟩
def KA(i:Nat):tb 0 i=ZC:=by unfold tb;simp
def avH{k:Kn}(w:k.wf)(h:AU k 0=ZB):Jw (Es 0) k=ZB:=by
 rw[bk w]at h;rw[aih w];intro i hi;obtain⟨h1,h2⟩:=h i hi;rw[KA]at h2;refine⟨?_,h1,?_,?_⟩
 .show(tb 0 i&&tb 0 i)=ZC;rw[KA];rfl
 .show(tb 0 i||tb k.m i)=tb k.m i;rw[KA,Bool.false_or]
 .show(tb 0 i &&!tb k.m i)=tb k.v i;rw[KA];exact h2
def ZT(t:Ty):Prop:=t.k=1/\Bf t.s 0=ZB
def ZT.wi(h:ZT t)(g:GT t):KO (DH (B7 0)) t=ZB:=by
 obtain⟨hk,hv⟩:=h;have k0:(t.k==0)=ZC:=Yq;cases hs:Hx t with
 |true=>exact asH k0 rfl hs
 |false=>rw[avq k0 rfl hs Yq rfl];have h1:=fG hv;have h2:=fV hv;rw[aR]at h1;have e:BY 0=0:=XY;rw[e]at h1;have hb:ME (G5 0) t.s.r=ZB:=auZ XY (Rt (eW hv)) ⟨h1.1,h1.2.1,by show _<=BY 0;rw[e];exact h1.2.2.1,by show BY 0<=_;rw[e];exact h1.2.2.2⟩;show(ME (G5 0) t.s.r&&Jw (Es 0) t.s.k)=ZB;rw[hb,avH g.wf.k h2];rfl
def aeW:Bf vall 0=ZB:=by decide +kernel
def ZT.join{a b:Ty}(h:ZT a)(ga:GT a)(gb:GT b)(hb:tset b=ZB):ZT (cN w a b):=by
 obtain⟨hk,hv⟩:=h;have JO:b.k≠0:=by intro e;rw[T5 (by rw[e];rfl)]at hb;cases hb
 unfold cN eh;rw[aa (by rintro (e|e);omega;exact JO e)];split
 .exact⟨rfl,aeW⟩
 .rename_i Bg
  try rw[ae hk]
  have hbk:b.k=1:=Fn;refine⟨rfl,?_⟩;show Bf (if w=ZB then DC a.s b.s else jE a.s b.s) 0=ZB;have m1:=yJ ga.ok hk;have m2:=yJ gb.ok hbk;split
  .exact aaH ga.wf gb.wf ⟨by decide,by decide⟩ m1 m2 (.inl hv)
  .exact vJ ga.wf gb.wf ⟨by decide,by decide⟩ m1 m2 (.inl hv)
def aaI:Ca vall=vall:=by kernel_rfl
def xK(k:Kn):ju kall k=kall:=by
 unfold ju;split
 .have e:bits .or .u64 (bits .or .u64 kall.m k.m) (bits .xor .u64 kall.v k.v)=18446744073709551615:=by
   refine RA (iV _ _) ⟨by decide,by decide⟩ (fun i hi=> ?_);have one:tb 18446744073709551615 i=ZB:=by have:∀i,i<64->tb 18446744073709551615 i=ZB:=XY;exact this i hi
   rw[fM,fM,show tb kall.m i=ZB from one,one];rfl
  rw[e];show(⟨bits .andNot .u64 0 18446744073709551615,18446744073709551615⟩:Kn)=⟨0,18446744073709551615⟩;rw[show bits .andNot .u64 0 18446744073709551615=0 by decide +kernel]
 .rfl
def amy{s:Sc}(h:s.wf):(if w=ZB then DC vall s else jE vall s)=vall:=by
 obtain⟨⟨⟨a1,a2⟩,⟨a3,a4⟩,⟨a5,a6⟩,⟨a7,a8⟩⟩,-⟩:=h;split
 .unfold DC;split
  .have e:FM vall.r s.r=ball:=by
    show FM ball s.r=ball;unfold FM ball;rw[aa (fun q=>by have:=Ae q.2;have:s.r.ul<0:=this;omega),aa (fun q=>by have:=Ae q.2;have:18446744073709551615<s.r.uh:=this;omega),aa (fun q=>by have:=Ae q.2;have:s.r.sl < -9223372036854775808:=this;omega),aa (fun q=>by have:=Ae q.2;have:9223372036854775807<s.r.sh:=this;omega)]
   rw[e,show vall.k=kall from rfl,xK];exact aaI
  .rfl
 .unfold jE;split
  .have e:jx vall.r s.r=ball:=by
    show jx ball s.r=ball;unfold jx;split
    .show(⟨min 0 s.r.ul,max 18446744073709551615 s.r.uh,min (-9223372036854775808) s.r.sl,max 9223372036854775807 s.r.sh⟩:Rg)=ball;rw[Int.min_eq_left a1,Int.max_eq_left a4,Int.min_eq_left a5,Int.max_eq_left a8];rfl
    .rfl
   rw[e,show vall.k=kall from rfl,xK];exact aaI
  .rfl
def PT(c z:Int)(t:Ty):Prop:=t.k=0\/t=tscal\/(t.k=c/\t.lo<=z/\z<=t.hi)
def PT.wi(h:PT c z t)(hc:c=2\/c=3):KO ⟨c,0,0,0,0,0,0,z,z⟩ t=ZB:=by
 have c0:(c==0)=ZC:=by rcases hc with rfl|rfl<;>rfl
 have c1:(c==1)=ZC:=by rcases hc with rfl|rfl<;>rfl
 rcases h with h|h|⟨h,h1,h2⟩
 .exact avr (by rw[h];rfl)
 .rw[h];exact asH Os c0 afo
 .have hs:Hx t=ZC:=by
   unfold Hx;rw[h,show(c==tscal.k)=ZC from c1];rfl
  rw[avp (by rw[h];exact c0) c0 hs (by show(c==t.k)=ZB;rw[h];simp) c1];show(decide (t.lo<=z)&&decide (z<=t.hi))=ZB;rw[cP h1,cP h2];rfl
def PT.join{a b:Ty}(hc:c=2\/c=3)(hz : -1048576<=z/\z<=1048576)(h:PT c z a)(ga:GT a)(gb:GT b):PT c z (cN w a b):=by
 unfold cN eh;split
 .exact .inl rfl
 rename_i h0;split
 .exact .inr (.inl rfl)
 rename_i Bg;rcases h with h|h|⟨h,h1,h2⟩
 .exact ak (.inl h) h0
 .have hk:a.k=1:=by rw[h];rfl
  rw[ae hk,h];refine .inr (.inl ?_);show ty 1 (if w=ZB then DC vall b.s else jE vall b.s) 0 0=tscal;rw[amy gb.wf];rfl
 .rw[aa Fn];refine .inr (.inr ⟨h,?_,?_⟩)
  .show G3 w a b<=z;unfold G3;split<;>omega
  .show z<=G2 w a b;unfold G2;split<;>omega
structure F0(s:Sta):Prop where
 r0:s.r0.k=0
 r1:PT 2 0 s.r1
 r2:s.r2.k=0
 r3:s.r3.k=0
 r4:s.r4.k=0
 r5:s.r5.k=0
 r6:s.r6.k=0
 r7:s.r7.k=0
 r8:s.r8.k=0
 r9:s.r9.k=0
 r10:PT 3 64 s.r10
 s0:ZT s.s0
 s1:ZT s.s1
 s2:ZT s.s2
 s3:ZT s.s3
 s4:ZT s.s4
 s5:ZT s.s5
 s6:ZT s.s6
 s7:ZT s.s7
def fO{a b:Ty}(h:a.k=0):(cN w a b).k=0:=by unfold cN eh;rw[ae (.inl h)];rfl
def F0.join(h:F0 a)(ga:GA a)(gb:GA b)(w:Bool):F0 (iQ w a b):=by
 rw[(oC ga.may gb.may).1];exact⟨fO h.r0,h.r1.join (.inl rfl) ⟨by decide,by decide⟩ ga.r1 gb.r1,fO h.r2,fO h.r3,fO h.r4,fO h.r5,fO h.r6,fO h.r7,fO h.r8,fO h.r9,h.r10.join (.inr rfl) ⟨by decide,by decide⟩ ga.r10 gb.r10,
  h.s0.join ga.s0.1 gb.s0.1 gb.s0.2,h.s1.join ga.s1.1 gb.s1.1 gb.s1.2,h.s2.join ga.s2.1 gb.s2.1 gb.s2.2,h.s3.join ga.s3.1 gb.s3.1 gb.s3.2,h.s4.join ga.s4.1 gb.s4.1 gb.s4.2,h.s5.join ga.s5.1 gb.s5.1 gb.s5.2,h.s6.join ga.s6.1 gb.s6.1 gb.s6.2,h.s7.join ga.s7.1 gb.s7.1 gb.s7.2⟩
def kf:GT (DH (B7 0)):=Mq XY (tP ⟨by decide,by decide⟩)
def al7:GA jJ:=
 ⟨gt_nil,Ux (.inl rfl) Os,gt_nil,gt_nil,gt_nil,gt_nil,gt_nil,gt_nil,gt_nil,gt_nil,Ux (.inr rfl) Os,
  ⟨kf,by decide +kernel⟩,⟨kf,by decide +kernel⟩,⟨kf,by decide +kernel⟩,⟨kf,by decide +kernel⟩,⟨kf,by decide +kernel⟩,⟨kf,by decide +kernel⟩,⟨kf,by decide +kernel⟩,⟨kf,by decide +kernel⟩⟩
def ox:ZT (DH (B7 0)):=⟨rfl,tW ⟨by decide,by decide⟩⟩
def amc:F0 jJ:=⟨rfl,.inr (.inr ⟨rfl,by decide,by decide⟩),rfl,rfl,rfl,rfl,rfl,rfl,rfl,rfl,.inr (.inr ⟨rfl,by decide,by decide⟩),ox,ox,ox,ox,ox,ox,ox,ox⟩
structure VJ(p:Prog)(r:VR):Prop where
 vi:VI p r
 s0:gt r.T (0:Nat) 0=1
 f:F0 (ap r.T (0:Nat))
 ok:∀k:Nat,k<64->gt r.T k 0=1->GA (ap r.T k)
 lt:∀k:Nat,k<64->gt r.T k 0=1->k<p.l.length
def DN(p:Prog)(r:VR):Prop:=∀k:Nat,k<64->gt r.T k 0=1->tb r.w k=ZC->(bA p k (ap r.T k)).2=0/\∀q∈(bA p k (ap r.T k)).1,gt r.T q.1 0=1
def jH(S:Sta)(hn:n<T.length):ap (T.set n (1::BG S)) (n:Int)=S:=by
 have h:∀c,gt (T.set n (1::BG S)) (n:Int) c=(1::BG S).getD c 0:=fun c=>by rw[Uw n c hn,ae rfl]
 simp only[ap,Bq,h];rfl
def arK(hn:n<T.length)(k:Nat)(h:gt T k 0=1\/k=n):gt (T.set n (1::BG S)) (k:Int) 0=1:=by
 rw[Uw k 0 hn];split
 .rfl
 next e=>exact h.resolve_right e
section
variable {p:Prog}{r:VR}{q:Int×Sta}
def ir(hq:q.1=(n:Int)):AN r q=r/\gt r.T n 0=1\/∃S g,AN r q=⟨GR r.w n,r.T.set n (1::BG S),g⟩/\(gt r.T n 0=1/\S=IN r q\/¬gt r.T n 0=1/\S=q.2):=by
 unfold AN;rw[hq,cy];split
 .rename_i h1;split
  .exact .inl ⟨rfl,h1⟩
  .exact .inr ⟨_,_,rfl,.inl ⟨h1,rfl⟩⟩
 next h1=>exact .inr ⟨_,_,rfl,.inr ⟨h1,rfl⟩⟩
def ali(hq:q.1=(n:Int))(hn:n<64)(hk:k<64):((AN r q).T[k]? =r.T[k]? /\tb (AN r q).w k=tb r.w k)\/tb (AN r q).w k=ZB:=by
 rcases ir (r:=r) hq with⟨h,-⟩|⟨S,g,h,-⟩
 .rw[h];exact .inl ⟨rfl,rfl⟩
 .rw[h];by_cases e:k=n
  .right;show tb (GR r.w n) k=ZB;rw[yN hn hk,e];simp
  .left;refine⟨by show(r.T.set n (1::BG S))[k]? =r.T[k]?;rw[nE (fun e2=>e e2.symm)],?_⟩;show tb (GR r.w n) k=tb r.w k;rw[yN hn hk];simp[e]
def mE(hq:q.1=(n:Int))(hn:n<r.T.length)(k:Nat)(h:gt r.T k 0=1\/k=n):gt (AN r q).T k 0=1:=by
 rcases ir (r:=r) hq with⟨e,h1⟩|⟨S,g,e,-⟩
 .rw[e];rcases h with h|h
  .exact h
  .rw[h];exact h1
 .rw[e];exact arK hn k h
def anl(hv:VJ p r)(hl:p.l.length<=64)(hq:q.1=(n:Int))(hn:n<p.l.length)(hg:GA q.2):VJ p (AN r q):=by
 have hT:n<r.T.length:=by rw[hv.vi.T];omega
 have vi:=hv.vi.put (q:=q) (by rw[hq];omega) hl;refine⟨vi,mE hq hT 0 (.inl hv.s0),?_,?_,?_⟩
 .rcases ir (r:=r) hq with⟨e,-⟩|⟨S,g,e,hS⟩
  .rw[e];exact hv.f
  .rw[e];show F0 (ap (r.T.set n (1::BG S)) (0:Nat));by_cases h0:n=0
   .subst h0;rw[jH S hT];rcases hS with⟨h1,rfl⟩|⟨h1,-⟩
    .unfold IN;rw[hq];exact hv.f.join (hv.ok 0 Fn hv.s0) hg _
    .exact ak hv.s0 h1
   .rw[dO (T':=r.T) (nE h0)];exact hv.f
 .intro k hk hs;rcases ir (r:=r) hq with⟨e,-⟩|⟨S,g,e,hS⟩
  .rw[e]at hs ⊢;exact hv.ok k hk hs
  .rw[e]at hs ⊢;show GA (ap (r.T.set n (1::BG S)) k);by_cases h0:n=k
   .subst h0;rw[jH S hT];rcases hS with⟨h1,rfl⟩|⟨h1,rfl⟩
    .unfold IN;rw[hq];exact(hv.ok n hk h1).join hg _
    .exact hg
   .have e2:(r.T.set n (1::BG S))[k]? =r.T[k]? :=nE h0;rw[dO e2];exact hv.ok k hk ((gT e2 0).symm.trans hs)
 .intro k hk hs;rcases ir (r:=r) hq with⟨e,-⟩|⟨S,g,e,-⟩
  .rw[e]at hs;exact hv.lt k hk hs
  .rw[e]at hs;by_cases h0:n=k
   .exact Fn
   .have e2:(r.T.set n (1::BG S))[k]? =r.T[k]? :=nE h0;exact hv.lt k hk ((gT e2 0).symm.trans hs)
end
def uI{p:Prog}(hl:p.l.length<=64):∀(l:List (Int×Sta)) {r:VR},VJ p r->(∀q∈l,(0<=q.1/\q.1<(p.l.length:Int))/\GA q.2)->
  VJ p (l.foldl AN r)/\(∀k:Nat,k<64->((l.foldl AN r).T[k]? =r.T[k]? /\tb (l.foldl AN r).w k=tb r.w k)\/tb (l.foldl AN r).w k=ZB)/\(∀k:Nat,gt r.T k 0=1->gt (l.foldl AN r).T k 0=1)/\∀q∈l,gt (l.foldl AN r).T q.1 0=1
 |[],r,h,_=>⟨h,fun _ _=>.inl ⟨rfl,rfl⟩,fun _ h=>h,fun q hq=>by cases hq⟩
 |q::l,r,h,hq=>by
   obtain⟨hr,hg⟩:=hq q bG;obtain⟨n,hn⟩:=cj hr.1;have hT:n<r.T.length:=by rw[h.vi.T];omega
   have h1:=anl h hl hn Fn hg;obtain⟨a,b,c,d⟩:=uI hl l h1 (fun x hx=>hq x (cm _ hx));refine⟨a,fun k hk=> ?_,fun k hs=>c k (mE hn hT k (.inl hs)),fun x hx=> ?_⟩
   .rcases b k hk with⟨b1,b2⟩|b1
    .rcases ali (r:=r) hn Fn hk with⟨c1,c2⟩|c1
     .exact .inl ⟨b1.trans c1,b2.trans c2⟩
     .exact .inr (b2.trans c1)
    .exact .inr b1
   .rcases ZN.1 hx with rfl|hx
    .rw[hn];exact c n (mE hn hT n (.inr rfl))
    .exact d x hx
def asD(hl:p.l.length<=maxLen)(hk:(aH p).2=0){r:VR}(h:VJ p r)(hd:DN p r)(hw:r.w≠0)(he:(bA p (CL r.w) (ap r.T (CL r.w))).2=0):
  VJ p ((bA p (CL r.w) (ap r.T (CL r.w))).1.foldl AN (jn r))/\DN p ((bA p (CL r.w) (ap r.T (CL r.w))).1.foldl AN (jn r)):=by
 obtain⟨⟨q1,q2,q3⟩,-,-⟩:=bj hl hk;obtain⟨MV,-⟩:=h.vi.next hw;obtain⟨k,e1,e2,e3,e4⟩:=uX (by have:=h.vi.w;omega) h.vi.w.2;obtain⟨k5,k6⟩:=h.vi.on k e2 e3;rw[e1]at he ⊢;have h2:VJ p (jn r):=⟨MV,h.s0,h.f,h.ok,h.lt⟩
 have hx:AL (ab p.l k)=ZB:=fT hl hk (Int.natCast_nonneg k) Fn;have hg:=(h.ok k e2 k6).sides hx;obtain⟨a,b,c,d⟩:=uI q3 (bA p k (ap r.T k)).1 h2 (fun q hq=>⟨mh hl hk k5 q hq,hg q hq⟩);refine⟨a,fun j hj hs hb=> ?_⟩;rcases b j hj with⟨b1,b2⟩|b1
 .have eS:ap ((bA p k (ap r.T k)).1.foldl AN (jn r)).T (j:Int)=ap r.T j:=dO b1;have HF:gt r.T j 0=1:=(gT b1 0).symm.trans hs;rw[eS];by_cases hjk:j=k
  .subst hjk;exact⟨he,d⟩
  .have Tc:tb r.w j=ZC:=by
    have:tb (jn r).w j=(tb r.w j &&!(j==k)):=e4 j hj;rw[b2,this]at hb;simpa[hjk]using hb
   obtain⟨f1,f2⟩:=hd j hj HF Tc;refine⟨f1,fun q hq=> ?_⟩;have Tk:=f2 q hq;obtain⟨m,hm⟩:=cj (mh hl hk (h.lt j hj HF) q hq).1;rw[hm]at Tk ⊢;exact c m Tk
 .rw[b1]at hb;cases hb
def SL:∀k:Nat,k<64->gt vini.T (k:Int) 0=1->k=0:=by decide +kernel
def asF(hl:1<=p.l.length):VJ p vini where
 vi:=VI.ini hl
 s0:=XY
 f:=by rw[show ap vini.T (0:Nat)=jJ by kernel_rfl];exact amc
 ok k hk hs:=by obtain rfl:=SL k hk hs;rw[show ap vini.T (0:Nat)=jJ by kernel_rfl];exact al7
 lt k hk hs:=by obtain rfl:=SL k hk hs;exact hl
def auP:DN p vini:=fun k hk hs hb=>by obtain rfl:=SL k hk hs;rw[show tb vini.w 0=ZB by decide +kernel]at hb;cases hb
def pX(T:LL)(i:Int):Sta:=⟨Bq T i 0,Bq T i 9,Bq T i 18,Bq T i 27,Bq T i 36,Bq T i 45,Bq T i 54,Bq T i 63,Bq T i 72,Bq T i 81,Bq T i 90,Bq T i 99,Bq T i 108,Bq T i 117,Bq T i 126,Bq T i 135,Bq T i 144,Bq T i 153,Bq T i 162⟩
def acD(f:Nat->List Int)(h:k<n)(c:Nat):gt ((List.range n).map f) (k:Int) c=(f k).getD c 0:=by
 have e:((List.range n).map f).getD k []=f k:=by rw[bh,iO,List.getElem?_range h];rfl
 unfold gt;rw[cy,e]
def rq(h:k<p.l.length):gt (lV p T).1 (k:Int) 0=1↔gt T k 0=1:=by
 unfold lV;rw[acD _ h];show Ay (gt T k 0==1)=1↔_;by_cases e:gt T k 0=1
 .rw[e];simp[Ay]
 .rw[show(gt T k 0==1)=ZC by simpa using e];simp[Ay,e]
def vp(h:k<p.l.length)(hs:gt T k 0=1):pX (lV p T).2.1 (k:Int)=ap T k:=by
 have e:∀c,gt (lV p T).2.1 (k:Int) c=(BG (ap T k)).getD c 0:=fun c=>by unfold lV;rw[acD _ h,ae hs]
 simp only[pX,Bq,e];rfl
def oF(p:Prog):Nat->Ms->List Int
 |0,_=>[]
 |f+1,m=>m.pc::(if halt p m=0 then oF p f (De p m)else[])
def ahy{m:Ms}(h:0<left)(hh:halt p m=0):oF p left.toNat m=m.pc::oF p (left-1).toNat (De p m):=by rw[show left.toNat=(left-1).toNat+1 by omega];show m.pc::(if _ then _ else _)=_;rw[ae hh]
def adL{m:Ms}(h:0<left)(hh:halt p m≠0):oF p left.toNat m=[m.pc]:=by rw[show left.toNat=(left-1).toNat+1 by omega];show m.pc::(if _ then _ else _)=_;rw[aa hh]
def adK{m:Ms}(h:¬0<left):oF p left.toNat m=[]:=by rw[show left.toNat=0 by omega];rfl
def up(c:List Int)(i:Int):List Int:=c.set i.toNat (Ac .add .i64 (c.getD i.toNat 0) 1)
def W7(f:LL):List Int:=f.map fun r=>r.getD 0 0
def pZ(m:Ms):List Int:=m.rg++m.st::W7 m.fm
def wx(p:Prog):Nat->Ms->LL
 |0,_=>[]
 |f+1,m=>pZ m::(if halt p m=0 then wx p f (De p m)else[])
def akQ{m:Ms}(h:0<left)(hh:halt p m=0):wx p left.toNat m=pZ m::wx p (left-1).toNat (De p m):=by rw[show left.toNat=(left-1).toNat+1 by omega];show pZ m::(if _ then _ else _)=_;rw[ae hh]
def af7{m:Ms}(h:0<left)(hh:halt p m≠0):wx p left.toNat m=[pZ m]:=by rw[show left.toNat=(left-1).toNat+1 by omega];show pZ m::(if _ then _ else _)=_;rw[aa hh]
def af6{m:Ms}(h:¬0<left):wx p left.toNat m=[]:=by rw[show left.toNat=0 by omega];rfl
def Uq(L:List Int):LL:=L.map fun i=>[i]
def R6(p:Prog)(cx an:LL)(fu:Int):LL×LL:=if jS p cx fu≠0 then([],[])else(Uq (oF p fu.toNat (Jy cx an)),wx p fu.toNat (Jy cx an))
structure JAt(p:Prog)(cx an:LL)(fu left:Int)(m:Ms)(fr:List Int)(A L:LL):Prop where
 run:RunAt p cx an fu left m
 fr:fr=W7 m.fm
 at_:A++Uq (oF p left.toNat m)=Uq (oF p fu.toNat (Jy cx an))
 sn:L++wx p left.toNat m=wx p fu.toNat (Jy cx an)
 la:(A.length:Int)+left=fu
 ll:L.length=A.length
def JAt.init(h0:0<=fu)(hl:1<=p.l.length):JAt p cx an fu fu (Jy cx an) (List.replicate 64 0) [] []:=⟨RunAt.init h0 hl,rfl,rfl,rfl,by show(0:Int)+fu=fu;omega,rfl⟩
def JAt.go{Fs:Int}{m m':Ms}{fr':List Int}{A' L':LL}(h:JAt p cx an fu left m fr A L)(hp:p.l.length<=maxLen)(Ai:(aH p).2=0)(hf:fu<=10000)(hl:0<left)(hh:halt p m=0)(hm:m'=De p m)(he:Fs=Ac .sub .i64 left 1)(hA:A'=A++[[m.pc]])(hL:L'=L++[pZ m])(Js:fr'=W7 m'.fm):
  JAt p cx an fu Fs m' fr' A' L'/\Fs.toNat<left.toNat:=by
 obtain⟨g1,g2⟩:=h.run.go hp Ai hf hl hh hm he;have e1:Ac .sub .i64 left 1=left-1:=by have:=h.run.hi;have:=h.run.lo;exact Gl Fn Fn
 refine⟨⟨g1,Js,?_,?_,?_,?_⟩,g2⟩
 .have:=h.at_;rw[ahy hl hh]at this;rw[hA,hm,he,e1,List.append_assoc];exact this
 .have:=h.sn;rw[akQ hl hh]at this;rw[hL,hm,he,e1,List.append_assoc];exact this
 .have:=h.la;rw[hA,he,e1,cQ,List.length_singleton];omega
 .rw[hA,hL,cQ,cQ,h.ll];rfl
def JAt.end{m:Ms}(ho:jS p cx fu=0)(h:JAt p cx an fu left m fr A L)(hl:0<left){k:Int}(hh:halt p m=k)(hk:k≠0):R6 p cx an fu=(A++[[m.pc]],L++[pZ m]):=by unfold R6;rw[aa (by simp[ho]),<-h.at_,<-h.sn,adL hl (by rw[hh];exact hk),af7 hl (by rw[hh];exact hk)];rfl
def JAt.out{m:Ms}(ho:jS p cx fu=0)(h:JAt p cx an fu left m fr A L)(hl:¬0<left):R6 p cx an fu=(A,L):=by unfold R6;rw[aa (by simp[ho]),<-h.at_,<-h.sn,adK hl,af6 hl];show(A++[],L++[])=(A,L);rw[YO,YO]
def LE(p:Prog)(a b:Sta):Prop:=∀m:Ms,WM p m->SH a m->SH b m
def LE.refl(p:Prog)(a:Sta):LE p a a:=fun _ _ h=>h
def LE.trans{c:Sta}(h:LE p a b)(h':LE p b c):LE p a c:=fun m w s=>h' m w (h m w s)
def akj(w:Bool)(a b:Sta){j:Nat}(hj:j<=10):Al (Lu w a b) j=cN w (Al a j) (Al b j):=by have:j=0\/j=1\/j=2\/j=3\/j=4\/j=5\/j=6\/j=7\/j=8\/j=9\/j=10:=Fn;rcases this with rfl|rfl|rfl|rfl|rfl|rfl|rfl|rfl|rfl|rfl|rfl<;>rfl
def afL(w:Bool)(a b:Sta)(hk:k<=7):nI (Lu w a b) k=cN w (nI a k) (nI b k):=by have:k=0\/k=1\/k=2\/k=3\/k=4\/k=5\/k=6\/k=7:=Fn;rcases this with rfl|rfl|rfl|rfl|rfl|rfl|rfl|rfl<;>rfl
def akw{m:Ms}(W:WM p m)(hk:k<=7):0<=bU (eb m) k/\bU (eb m) k<=18446744073709551615:=by rw[afz _ hk];have:=yv (tL W) 8 (8*(k:Int));have h9:(256:Int) ^ 8=18446744073709551616:=Os;omega
def SH.join{m:Ms}(W:WM p m)(ga:GA a)(gb:GA b)(h:SH a m\/SH b m):SH (iQ w a b) m:=by
 rw[(oC ga.may gb.may).1];refine(hC _ _).2 ⟨by rw[<-(oC (w:=w) ga.may gb.may).1];exact(ga.join gb w).may,fun j hj=> ?_,fun k hk=> ?_⟩
 .rw[akj w a b hj];have A:=ga.nth (d:=(j:Int)) Fn Fn;have B:=gb.nth (d:=(j:Int)) Fn Fn;exact ald A.wf B.wf A.ok B.ok (W.r _) (h.imp (fun h=>((hC _ _).1 h).2.1 j hj) (fun h=>((hC _ _).1 h).2.1 j hj))
 .rw[afL w a b hk];have A:=ga.slot (k:Int);have B:=gb.slot (k:Int);exact rY A.wf B.wf A.ok B.ok (akw W hk) (h.imp (fun h=>((hC _ _).1 h).2.2 k hk) (fun h=>((hC _ _).1 h).2.2 k hk))
def LE.l(ga:GA a)(gb:GA b)(w:Bool):LE p a (iQ w a b):=fun _ W h=>SH.join W ga gb (.inl h)
def LE.r(ga:GA a)(gb:GA b)(w:Bool):LE p b (iQ w a b):=fun _ W h=>SH.join W ga gb (.inr h)
def amU(s:Sta):pX [BG s] 0=s:=by kernel_rfl
def akB(h:BG a=BG b):a=b:=by rw[<-amU a,<-amU b,h]
def DL(p:Prog)(r:VR):Prop:=∀k:Nat,k<64->gt r.T k 0=1->tb r.w k=ZC->∀q∈(bA p k (ap r.T k)).1,LE p q.2 (ap r.T q.1)
section
variable {p:Prog}{r:VR}{q:Int×Sta}
def ata(hv:VJ p r)(hl:p.l.length<=64)(hq:q.1=(n:Int))(hn:n<p.l.length)(hg:GA q.2):LE p q.2 (ap (AN r q).T n)/\∀k:Nat,k<64->gt r.T k 0=1->LE p (ap r.T k) (ap (AN r q).T k):=by
 have hT:n<r.T.length:=by rw[hv.vi.T];omega
 unfold AN;rw[hq,cy];by_cases h1:gt r.T n 0=1
 .rw[ae h1];have gn:=hv.ok n Fn h1;have ej:IN r q=iQ (decide (8<gt r.g q.1 0)) (ap r.T n) q.2:=by unfold IN;rw[hq]
  by_cases h2:BG (IN r q)=BG (ap r.T n)
  .rw[ae h2];refine⟨?_,fun k _ _=>LE.refl _ _⟩;have e:=akB h2;rw[<-e,ej];exact LE.r gn hg _
  .rw[aa h2];refine⟨?_,fun k hk hs=> ?_⟩
   .rw[jH _ hT,ej];exact LE.r gn hg _
   .by_cases e:n=k
    .subst e;rw[jH _ hT,ej];exact LE.l gn hg _
    .rw[dO (T':=r.T) (nE e)];exact LE.refl _ _
 .rw[aa h1];refine⟨by rw[jH _ hT];exact LE.refl _ _,fun k hk hs=> ?_⟩;by_cases e:n=k
  .subst e;exact ak hs h1
  .rw[dO (T':=r.T) (nE e)];exact LE.refl _ _
end
def aht{p:Prog}(hl:p.l.length<=64):∀(l:List (Int×Sta)) {r:VR},VJ p r->(∀q∈l,(0<=q.1/\q.1<(p.l.length:Int))/\GA q.2)->
  (∀k:Nat,k<64->gt r.T k 0=1->LE p (ap r.T k) (ap (l.foldl AN r).T k))/\∀q∈l,LE p q.2 (ap (l.foldl AN r).T q.1)
 |[],r,h,_=>⟨fun k _ _=>LE.refl _ _,fun q hq=>by cases hq⟩
 |q::l,r,h,hq=>by
   obtain⟨hr,hg⟩:=hq q bG;obtain⟨n,hn⟩:=cj hr.1;have hT:n<r.T.length:=by rw[h.vi.T];omega
   have h1:=anl h hl hn Fn hg;obtain⟨a,b⟩:=aht hl l h1 (fun x hx=>hq x (cm _ hx));obtain⟨c,d⟩:=ata h hl hn Fn hg;refine⟨fun k hk hs=>(d k hk hs).trans (a k hk (mE hn hT k (.inl hs))),fun x hx=> ?_⟩;rcases ZN.1 hx with rfl|hx
   .rw[hn];exact c.trans (a n Fn (mE hn hT n (.inr rfl)))
   .exact b x hx
def aeT(hl:p.l.length<=maxLen)(hk:(aH p).2=0){r:VR}(h:VJ p r)(hn:DN p r)(hd:DL p r)(hw:r.w≠0)(he:(bA p (CL r.w) (ap r.T (CL r.w))).2=0):
  DL p ((bA p (CL r.w) (ap r.T (CL r.w))).1.foldl AN (jn r))/\LE p (ap r.T (0:Nat)) (ap ((bA p (CL r.w) (ap r.T (CL r.w))).1.foldl AN (jn r)).T (0:Nat)):=by
 obtain⟨⟨q1,q2,q3⟩,-,-⟩:=bj hl hk;obtain⟨MV,-⟩:=h.vi.next hw;obtain⟨k,e1,e2,e3,e4⟩:=uX (by have:=h.vi.w;omega) h.vi.w.2;obtain⟨k5,k6⟩:=h.vi.on k e2 e3;rw[e1]at he ⊢;have h2:VJ p (jn r):=⟨MV,h.s0,h.f,h.ok,h.lt⟩
 have hx:AL (ab p.l k)=ZB:=fT hl hk (Int.natCast_nonneg k) Fn;have hg:=(h.ok k e2 k6).sides hx;have AX:∀q∈(bA p k (ap r.T k)).1,(0<=q.1/\q.1<(p.l.length:Int))/\GA q.2:=fun q hq=>⟨mh hl hk k5 q hq,hg q hq⟩
 obtain⟨a,b,c,d⟩:=uI q3 (bA p k (ap r.T k)).1 h2 AX;obtain⟨u,v⟩:=aht q3 (bA p k (ap r.T k)).1 h2 AX;refine⟨fun j hj hs hb=> ?_,u 0 Os h.s0⟩;rcases b j hj with⟨b1,b2⟩|b1
 .have eS:ap ((bA p k (ap r.T k)).1.foldl AN (jn r)).T (j:Int)=ap r.T j:=dO b1;have HF:gt r.T j 0=1:=(gT b1 0).symm.trans hs;rw[eS];by_cases hjk:j=k
  .subst hjk;exact v
  .have Tc:tb r.w j=ZC:=by
    have:tb (jn r).w j=(tb r.w j &&!(j==k)):=e4 j hj;rw[b2,this]at hb;simpa[hjk]using hb
   intro q hq;have g1:=hd j hj HF Tc q hq;have g2:=(hn j hj HF Tc).2 q hq;obtain⟨m,hm⟩:=cj (mh hl hk (h.lt j hj HF) q hq).1;have Ap:=(mh hl hk (h.lt j hj HF) q hq).2;rw[hm]at g1 g2 ⊢;exact g1.trans (u m Fn g2)
 .rw[b1]at hb;cases hb
def auQ:DL p vini:=fun k hk hs hb=>by obtain rfl:=SL k hk hs;rw[show tb vini.w 0=ZB by decide +kernel]at hb;cases hb
def akg(hl:p.l.length<=maxLen)(hk:(aH p).2=0):∀(n:Nat) (last:Int) (r:VR),VJ p r->DN p r->DL p r->(jo p n last r).2.2.2=0->∃r',jo p n last r=lV p r'.T/\VJ p r'/\DN p r'/\DL p r'/\r'.w=0/\LE p (ap r.T (0:Nat)) (ap r'.T (0:Nat)):=by
 intro n
 induction n with
 |zero=>
   intro last r hV hD hL h;by_cases hw:r.w=0
   .exact⟨r,iu hw,hV,hD,hL,hw,LE.refl _ _⟩
   .rw[lk hw]at h;cases h
 |succ n ih=>
   intro last r hV hD hL h;by_cases hw:r.w=0
   .exact⟨r,iu hw,hV,hD,hL,hw,LE.refl _ _⟩
   .by_cases he:(bA p (CL r.w) (ap r.T (CL r.w))).2=0
    .rw[nB hw he]at h ⊢;obtain⟨a,b⟩:=asD hl hk hV hD hw he;obtain⟨c,d⟩:=aeT hl hk hV hD hL hw he;obtain⟨r',g1,g2,g3,g4,g5,g6⟩:=ih _ _ a b c h;exact⟨r',g1,g2,g3,g4,g5,d.trans g6⟩
    .rw[pQ hw he]at h;exact ak h he
structure GM(p:Prog)(m:Ms):Prop where
 wm:WM p m
 p0:0<=m.pc
 p1:m.pc<(p.l.length:Int)
 sn:gt (AK p).1 m.pc 0=1
 sh:SH (pX (AK p).2.1 m.pc) m
def akV(cx an:LL):SH jJ (Jy cx an):=by show EJ jJ (eb (Jy [] []))=ZB;decide +kernel
def aj7(hc:RowsIn [ZA .u8] cx)(ha:RowsIn [ZA .u64] an)(hl:(cx.length:Int)=p.ctx):WM p (Jy cx an):=⟨rfl,fun v hv=>(by decide:∀v∈[(0:Int),2097152,0,0,0,0,0,0,0,0,3145792],0<=v/\v<=18446744073709551615) v hv,⟨1026,rfl,by decide⟩,ha,hc,hl,ahe 64 Os,List.length_replicate⟩
section
variable {p:Prog}(hl:p.l.length<=maxLen)(h:(AK p).2.2.2=0)
include hl h
theorem yC:(aH p).2=0/\∃r,AK p=lV p r.T/\VJ p r/\DN p r/\DL p r/\r.w=0/\LE p jJ (ap r.T (0:Nat)):=by
 by_cases hk:(aH p).2=0
 .obtain⟨⟨q1,q2,q3⟩,-,-⟩:=bj hl hk;have e:AK p=jo p 2000 0 vini:=by unfold AK;rw[ae hk]
  rw[e]at h ⊢;obtain⟨r,g1,g2,g3,g4,g5,g6⟩:=akg hl hk _ _ _ (asF q2) auP auQ h;rw[show ap vini.T (0:Nat)=jJ by kernel_rfl]at g6;exact⟨hk,r,g1,g2,g3,g4,g5,g6⟩
 .unfold AK at h;rw[aa hk]at h;exact ak h hk
theorem al6(hc:RowsIn [ZA .u8] cx)(ha:RowsIn [ZA .u64] an)(CQ:(cx.length:Int)=p.ctx):GM p (Jy cx an):=by
 obtain⟨hk,r,e,hV,hD,hL,hw,hF⟩:=yC hl h;obtain⟨⟨q1,q2,q3⟩,-,-⟩:=bj hl hk;have W:=aj7 hc ha CQ;refine⟨W,Int.le_refl _,by show(0:Int)<_;omega,?_,?_⟩
 .rw[e];exact(rq (k:=0) Fn).2 hV.s0
 .rw[e];show SH (pX (lV p r.T).2.1 ((0:Nat):Int)) _;rw[vp (k:=0) Fn hV.s0];exact hF _ W (akV cx an)
theorem arM{m:Ms}(g:GM p m):halt p m≠3/\(halt p m=0->GM p (De p m)):=by
 obtain⟨hk,r,e,hV,hD,hL,hw,-⟩:=yC hl h;obtain⟨⟨q1,q2,q3⟩,-,-⟩:=bj hl hk;obtain⟨W,p0,p1,sn,sh⟩:=g;obtain⟨k,Fk⟩:=cj p0;have Dj:k<p.l.length:=Fn;rw[e,Fk]at sn sh;have hs:=(rq Dj).1 sn;rw[vp Dj hs]at sh;have hb:tb r.w k=ZC:=by rw[hw,KA]
 obtain⟨d1,d2⟩:=hD k Fn hs hb;have d3:=hL k Fn hs hb;have so:=apV (s:=ap r.T k) hl hk W p0 p1 (hV.ok k Fn hs) sh (by rw[Fk];exact d1);refine⟨so.1,fun hh=> ?_⟩;obtain⟨w2,q,hq,e1,e2⟩:=so.2 hh;rw[Fk]at hq;obtain⟨n0,n1⟩:=atd hl hk p0 p1 hh;obtain⟨n,hn⟩:=cj n0;have KM:(De p m).pc=(n:Int):=hn;have GD:n<p.l.length:=Fn;have s2:=d2 q hq;have s3:=d3 q hq;rw[e1,KM]at s2 s3;refine⟨w2,by rw[KM];omega,by rw[KM];omega,?_,?_⟩
 .rw[e,KM];exact(rq GD).2 s2
 .rw[e,KM,vp GD s2];exact s3 _ w2 e2
end
def Lw(sn st:LL)(i:Int):Bool:=(decide (0<=i)&&decide (i<min (sn.length:Int) (st.length:Int)))&&(gt sn i 0==1)
def Re(sn st:LL)(i:Int):Sta:=if Lw sn st i=ZB then pX st i else Kz
def GM.at{m:Ms}(g:GM p m)(h:(AK p).2.2.2=0):Lw (AK p).1 (AK p).2.1 m.pc=ZB/\Re (AK p).1 (AK p).2.1 m.pc=pX (AK p).2.1 m.pc:=by
 obtain⟨n1,n2⟩:=akd h;have e:Lw (AK p).1 (AK p).2.1 m.pc=ZB:=by unfold Lw;have:=g.p0;have:=g.p1;rw[g.sn,cP g.p0,cP Fn];rfl
 exact⟨e,by unfold Re;rw[ae e]⟩
def oa:D2 ⟨0,[[0,11,64,0,1,0,1,0,0],[6,0,0,0,0,0,0,0,0]]⟩=(([[2],[1]],[[1],[0]]),0):=by kernel_rfl
def atC(p:Prog):(D2 p).2=(aH p).2:=by
 unfold D2;split
 next h=>exact h.symm
 .rfl
def atB(h:(aH p).2=0):(D2 p).1=(dA (oU p).1,dA (oU p).2):=by unfold D2;rw[ae h]
def alA(hl:p.l.length<=maxLen)(h:(aH p).2=0):Fix p (oU p).1 (oU p).2:=ahZ (bj hl h).1.2.2
def alp(I:List BV)(l:List Nat)(a:BV)(x:Nat):Jz I (l++[x]) a=Jz I l a ||| I.getD x 0:=by unfold Jz;rw[List.foldl_append];rfl
def behind{I:List BV}{i j x:Nat}(h:(nx p i)[j]? =ZA x)(hx:x<I.length):Ac .or .i64 (Jz I ((nx p i).take j) 0).toInt (gt (dA I) x 0)=(Jz I ((nx p i).take (j+1)) 0).toInt:=by rw[kF hx,xo,fw,fw,List.take_add_one,h,Option.toList_some,alp]
def aoh(l:LL)(i:Int):LL:=List.take (gt l i 2).toNat ((((([]++[[gt l i 3]])++[[gt l i 4]])++[[gt l i 5]])++[[gt l i 6]])++[[gt l i 7]])
def aeu(l:LL)(i:Int):(aoh l i).length<=maxLen:=by unfold aoh;rw[YQ];exact cO (Nat.min_le_right _ _) (by show 5<=maxLen;decide)
def agj{q:Prog}:∀(m n:Nat),(∀j,j<m->gJ q ((n+j:Nat):Int)=ZD)->Dm q m n=ZD
 |0,_,_=>rfl
 |m+1,n,h=>by unfold Dm;rw[show gJ q (n:Int)=ZD from h 0 Fn];exact agj m (n+1) fun j hj=>by rw[show n+1+j=n+(j+1) by omega];exact h (j+1) Fn
def al0{q:Prog}(h0:0<=q.ctx/\q.ctx<=256)(h1:q.last=(q.l.length:Int)-1)(h2:1<=q.l.length/\q.l.length<=64)(h3:∀n:Nat,n<q.l.length->gJ q n=ZD)(h4:(ab q.l q.last).k=4\/(ab q.l q.last).k=6):aH q=(0,0):=by unfold aH;rw[aa (by rw[cP h0.1,cP h0.2];decide),aa (by rw[cP Fn,cP Fn];decide),agj _ 0 (fun j hj=>by rw[be];exact h3 j hj)];show(if _ then _ else _)=_;rw[ae h4]
def Rd(x:Ins)(r:Nat):Prop:=(FL (C7 x)).getLsbD r=ZB
def Wr(x:Ins)(r:Nat):Prop:=(FL (JC x)).getLsbD r=ZB
def asb:∀d:Nat,d<11->∀r:Nat,r<11->(FL (AC (d:Int))).getLsbD r=decide (d=r):=by decide +kernel
def UE(d0:0<=d)(d1:d<=10){r:Nat}(hr:r<11):(FL (AC d)).getLsbD r=ZB↔d=(r:Int):=by obtain⟨n,rfl⟩:=cj d0;rw[asb n Fn r hr,ax];omega
def OM(a b:Int)(r:Nat):(FL (Ac .or .i64 a b)).getLsbD r=ZB↔(FL a).getLsbD r=ZB\/(FL b).getLsbD r=ZB:=by rw[xo,fw,BitVec.getLsbD_or,eu]
def au2:∀n:Nat,n<6->∀r:Nat,r<11->1<=r->r<=n->(FL (Ac .sub .i64 (Ac .shl .i64 1 (Ac .add .i64 (n:Int) 1)) 2)).getLsbD r=ZB:=by decide +kernel
def w63:∀r:Nat,r<11->6<=r->(FL 63).getLsbD r=ZC:=by decide +kernel
def bv0(r:Nat):(FL 0).getLsbD r=ZC:=by show(BitVec.ofInt 64 0).getLsbD r=ZC;simp
section
variable {x:Ins}(hx:AL x=ZB)
include hx
theorem Ln(h:x.k=0/\x.op≠11\/x.k=2\/x.k=3):Rd x x.d.toNat:=by
 obtain⟨d0,d1,_⟩:=aZ hx;have q:(FL (AC x.d)).getLsbD x.d.toNat=ZB:=(UE d0 d1 Fn).2 Fn;unfold Rd C7;rw[ae hx];rcases h with⟨h,h2⟩|h|h
 .rw[ae h,aa h2,OM];exact .inl q
 .rw[aa Fn,aa Fn,ae h,OM];exact .inl q
 .rw[aa Fn,aa Fn,aa Fn,ae h,OM];exact .inl q
theorem Lo(h:(x.k=0\/x.k=3)/\x.br=ZB\/x.k=1\/x.k=2):Rd x x.s.toNat:=by
 obtain⟨_,_,s0,s1,_⟩:=aZ hx;have q:(FL (AC x.s)).getLsbD x.s.toNat=ZB:=(UE s0 s1 Fn).2 Fn;unfold Rd C7;rw[ae hx];rcases h with⟨h,h2⟩|h|h
 .rw[ae h2];rcases h with h|h
  .rw[ae h];split
   .exact q
   .exact(OM _ _ _).2 (.inr q)
  .rw[aa Fn,aa Fn,aa Fn,ae h];exact(OM _ _ _).2 (.inr q)
 .rw[aa Fn,ae h];exact q
 .rw[aa Fn,aa Fn,ae h,OM];exact .inr q
theorem rd_a(h:x.k=5){r:Nat}(h1:1<=r)(h2:(r:Int)<=iD x.imm):Rd x r:=by obtain⟨a0,a1⟩:=bH x.imm;obtain⟨n,hn⟩:=cj a0;unfold Rd C7;rw[ae hx,aa Fn,aa Fn,aa Fn,aa Fn,ae h,hn];exact au2 n Fn r Fn h1 Fn
theorem avA(h:x.k=6):Rd x 0:=by unfold Rd C7;rw[ae hx,aa Fn,aa Fn,aa Fn,aa Fn,aa Fn,ae h];decide +kernel
theorem Sg{r:Nat}(hr:r<11)(h:(x.k=0\/x.k=1)/\x.d≠(r:Int)\/x.k=5/\6<=r\/x.k≠0/\x.k≠1/\x.k≠5):¬Wr x r:=by
 obtain⟨d0,d1,_⟩:=aZ hx;unfold Wr JC;rw[ae hx];rcases h with⟨h,h2⟩|⟨h,h2⟩|h
 .rw[ae h,UE d0 d1 hr];exact h2
 .rw[aa Fn,ae h,w63 r hr h2];decide
 .rw[aa Fn,aa Fn,bv0];decide
end
structure EQ(V:Nat->Prop)(m n:Ms):Prop where
 st:n.st=m.st
 pc:n.pc=m.pc
 an:n.an=m.an
 tr:n.tr=m.tr
 cx:n.cx=m.cx
 fm:n.fm=m.fm
 ml:m.rg.length=11
 nl:n.rg.length=11
 rg:∀r:Nat,r<11->V r->n.rg.getD r 0=m.rg.getD r 0
def EQ.weak{V U:Nat->Prop}{m n:Ms}(h:EQ V m n)(hu:∀r:Nat,r<11->U r->V r):EQ U m n:={h with rg:=fun r hr u=>h.rg r hr (hu r hr u)}
def EQ.refl(V:Nat->Prop){m:Ms}(h:m.rg.length=11):EQ V m m:=⟨rfl,rfl,rfl,rfl,rfl,rfl,h,h,fun _ _ _=>rfl⟩
def EQ.r{V:Nat->Prop}{m n:Ms}(h:EQ V m n){i:Int}(h1:i<=10)(hv:V i.toNat):n.r i=m.r i:=h.rg _ Fn hv
def RJ{l:List Int}(h0:0<=d)(h1:d<=10)(hl:l.length=11)(v:Int)(r:Nat):(l.set d.toNat v).getD r 0=if d=(r:Int)then v else l.getD r 0:=by
 rw[bh];by_cases c:d=(r:Int)
 .rw[ae c,show d.toNat=r by omega,List.getElem?_set_self Fn];rfl
 .rw[aa c,nE Fn,<-bh]
def ash{l l':List Int}(hl:l.length=l'.length){n:Int}(n0:0<=n)(n5:n<=5)(h:∀r:Nat,1<=r->(r:Int)<=n->l.getD r 0=l'.getD r 0):Fc l n=Fc l' n:=by
 unfold Fc;refine List.ext_getElem? fun k=> ?_;rw[List.getElem?_drop,List.getElem?_drop];have e:Ac .add .i64 1 n=1+n:=Gl Fn Fn;rw[e,show(1:Int).toNat=1 from rfl];by_cases c:1+k<(1+n).toNat
 .rw[List.getElem?_take_of_lt c,List.getElem?_take_of_lt c,iO,iO];have q:=h (1+k) Fn Fn;rw[bh,bh]at q;by_cases c2:1+k<l.length
  .rw[Az c2,Az (hl▸c2)]at q ⊢;simp at q ⊢;exact q
  .rw[bN Fn,bN Fn]
 .rw[bN XS,bN XS]
section
variable {V:Nat->Prop}{m n:Ms}{x:Ins}(hx:AL x=ZB)(h:EQ (fun r=>Rd x r\/V r/\¬Wr x r) m n)
include hx h
omit hx in
theorem EQ.mem:n.mem=m.mem:=by unfold Ms.mem;rw[h.cx,h.fm]
theorem EQ.sec(hk:x.k=0\/x.k=3):n.sec x=m.sec x:=by
 unfold Ms.sec;split
 next hb=>exact h.r (aZ hx).2.2.2.1 (.inl (Lo hx (.inl ⟨hk,hb⟩)))
 .rfl
theorem EQ.halt:lI n x=lI m x:=by
 obtain⟨d0,d1,s0,s1,_⟩:=aZ hx;unfold lI;rw[h.st,h.an];split
 .rfl
 .split
  next hk=>rw[h.mem,h.r s1 (.inl (Lo hx (.inr (.inl hk))))]
  .split
   next hk=>unfold EL;rw[h.r d1 (.inl (Ln hx (.inr (.inl hk)))),h.cx,h.fm]
   .rfl
theorem EQ.to:ET n x=ET m x:=by
 obtain⟨d0,d1,_⟩:=aZ hx;unfold ET;rw[h.pc];by_cases hk:x.k=3
 .rw[h.sec hx (.inr hk),h.r d1 (.inl (Ln hx (.inr (.inr hk))))]
 .have e:∀b:Bool,(x.k=4\/x.k=3/\b=ZB)=(x.k=4):=fun b=>propext ⟨fun q=>q.resolve_right fun c=>hk c.1,.inl⟩;simp only[e]
theorem EQ.set(hk:x.k=0\/x.k=1){v':Int}(hv:v'=v):EQ V (m.set x.d v) (n.set x.d v'):=by
 obtain⟨d0,d1,_⟩:=aZ hx;refine⟨by show Ac .or .i64 n.st _=Ac .or .i64 m.st _;rw[h.st],h.pc,h.an,h.tr,h.cx,h.fm,(YU ..).trans h.ml,(YU ..).trans h.nl,fun r hr hV=> ?_⟩;show(n.rg.set x.d.toNat v').getD r 0=(m.rg.set x.d.toNat v).getD r 0;rw[RJ d0 d1 h.nl,RJ d0 d1 h.ml];split
 .exact hv
 next c=>exact h.rg r hr (.inr ⟨hV,Sg hx hr (.inl ⟨hk,c⟩)⟩)
theorem EQ.body:EQ V (dv m x) (dv n x):=by
 obtain⟨d0,d1,s0,s1,_⟩:=aZ hx;have same:x.k≠0/\x.k≠1/\x.k≠5->EQ V m n:=fun hk=>h.weak fun r hr hV=>.inr ⟨hV,Sg hx hr (.inr (.inr hk))⟩;unfold dv;split
 .rename_i hk;refine h.set hx (.inl hk) ?_;rw[h.sec hx (.inl hk)];by_cases c:x.op=11
  .rw[c];rfl
  .rw[h.r d1 (.inl (Ln hx (.inl ⟨hk,c⟩)))]
 .split
  next hk=>refine h.set hx (.inr hk) ?_;rw[h.mem,h.r s1 (.inl (Lo hx (.inr (.inl hk))))]
  .split
   .rename_i hk;have q:=same Fn;have e1:=h.r d1 (.inl (Ln hx (.inr (.inl hk))));have e2:=h.r s1 (.inl (Lo hx (.inr (.inr hk))));refine {q with cx:= ?_,fm:= ?_}
    .show Jn n _ _ _=Jn m _ _ _;unfold Jn;rw[e1,e2,h.cx]
    .show Hw n _ _ _=Hw m _ _ _;unfold Hw;rw[e1,e2,h.fm]
   .split
    .rename_i hk;obtain⟨a0,a5⟩:=bH x.imm;have eA:Fc n.rg (iD x.imm)=Fc m.rg (iD x.imm):=ash (by rw[h.ml,h.nl]) a0 a5 fun r h1 h2=>h.rg r Fn (.inl (rd_a hx hk h1 h2));refine⟨by show G7 n.st=G7 m.st;rw[h.st],h.pc,by show n.an.drop _=m.an.drop _;rw[h.an],?_,h.cx,h.fm,?_,?_,fun r hr hV=> ?_⟩
     .show n.tr++[SQ n.rg _ _ _]=m.tr++[SQ m.rg _ _ _];unfold SQ;rw[eA,h.an,h.tr]
     .show([gt m.an 0 0,0,0,0,0,0]++m.rg.drop 6).length=11;rw[cQ,ZV,h.ml];rfl
     .show([gt n.an 0 0,0,0,0,0,0]++n.rg.drop 6).length=11;rw[cQ,ZV,h.nl];rfl
     .show([gt n.an 0 0,0,0,0,0,0]++n.rg.drop 6).getD r 0=([gt m.an 0 0,0,0,0,0,0]++m.rg.drop 6).getD r 0;rw[h.an,bh,bh];by_cases c:r<6
      .rw[AW (by simpa using c),AW (by simpa using c)]
      .rw[Bc Xz,Bc Xz,List.getElem?_drop,List.getElem?_drop,<-bh,<-bh];have e:6+(r - [gt m.an 0 0,0,0,0,0,0].length)=r:=Xz;rw[e];exact h.rg r hr (.inr ⟨hV,Sg hx hr (.inr (.inl ⟨hk,by omega⟩))⟩)
    next h0 h1 h2 h5=>exact same ⟨h0,h1,h5⟩
end
def atc{m:Ms}(hx:AL (ab p.l m.pc)=ZB)(hn:m.pc=(n:Int))(hb:m.pc<1099511627776)(hh:halt p m=0):(ET m (ab p.l m.pc)).toNat∈nx p n:=by
 unfold nx gr;rw[<-hn];unfold halt at hh;generalize ab p.l m.pc=x at *;have hk6:x.k≠6:=by
  intro h6;unfold lI at hh;split at hh
  .cases hh
  .simp[h6]at hh
 have tin:x.k=3\/x.k=4->(AD m.pc x).2=ZB:=fun h=>zU hx h Fn hb;have tout:x.k≠3->x.k≠4->(AD m.pc x).2=ZC:=fun h3 h4=>by unfold AD;rw[aa (fun q=>q.1.elim h3 h4)]
 by_cases h4:x.k=4
 .have e1:ET m x=(AD m.pc x).1:=ae (.inl h4);rw[e1,aa (show¬(x.k≠4/\x.k≠6)from fun q=>q.1 h4),ae (tin (.inr h4))];simp
 .rw[ae (show x.k≠4/\x.k≠6 from⟨h4,hk6⟩)];by_cases h3:x.k=3/\xS x.op 64 (m.r x.d) (m.sec x)=ZB
  .have e1:ET m x=(AD m.pc x).1:=ae (.inr h3);rw[e1];by_cases e:(AD m.pc x).1=Ac .add .i64 m.pc 1
   .rw[aa (show¬((AD m.pc x).2=ZB/\(AD m.pc x).1≠Ac .add .i64 m.pc 1)from fun q=>q.2 e),e];simp
   .rw[ae (show(AD m.pc x).2=ZB/\(AD m.pc x).1≠Ac .add .i64 m.pc 1 from⟨tin (.inl h3.1),e⟩)];simp only[List.map_cons,List.map_nil,ZN,List.not_mem_nil,or_false,List.getD_cons_zero];omega
  .have e1:ET m x=Ac .add .i64 m.pc 1:=aa (fun q=>q.elim h4 h3);rw[e1];split
   .simp only[List.map_cons,List.map_nil,ZN,List.not_mem_nil,or_false,List.getD_cons_zero];omega
   .simp
def OK(d b:Int):List Int:=[0,11,64,0,0,d,0,0,b]
def vr(d b:Int):Ins:=⟨0,11,64,0,ZC,d,0,0,b⟩
def gC(p:Prog)(i:Nat)(b:Int):Prog:=⟨p.ctx,p.l.set i (OK (ab p.l i).d b)⟩
def mS{l:LL}{i:Nat}(h:i<l.length)(d b:Int)(j:Nat):ab (l.set i (OK d b)) (j:Int)=if j=i then vr d b else ab l (j:Int):=by
 have:∀c,gt (l.set i (OK d b)) (j:Int) c=if j=i then(OK d b).getD c 0 else gt l (j:Int) c:=by
  intro c;unfold gt;rw[cy,bh (l:=l.set _ _),bh (l:=l)];by_cases e:j=i
  .subst e;rw[ae rfl,List.getElem?_set_self h];rfl
  .rw[aa e,nE (fun q=>e q.symm)]
 unfold ab;simp only[this];split<;>rfl
section
variable {p:Prog}{i:Nat}{b:Int}(hl:p.l.length<=maxLen)(Ai:(aH p).2=0)(hi:i<p.l.length)(hk:(ab p.l i).k=0\/(ab p.l i).k=1)
include hl Ai hi hk
theorem ad9(hm:AL (vr (ab p.l i).d b)=ZB):(aH (gC p i b)).2=0:=by
 obtain⟨⟨h1,n1,Tu⟩,AX,Gd⟩:=bj hl Ai;have AE:(p.l.set i (OK (ab p.l i).d b)).length=p.l.length:=YU ..;have hq:(gC p i b).last=p.last:=by show Ac .sub .i64 (((p.l.set i _).length:Nat):Int) 1=_;rw[AE];rfl
 have hA:∀n:Nat,n<(gC p i b).l.length->gJ (gC p i b) n=ZD:=fun n hn=>by
  have hn:n<p.l.length:=AE▸hn;have e:=mS hi (ab p.l i).d b n;have hb:=AX n hn;unfold gJ at hb ⊢;rw[hq,show ab (gC p i b).l (n:Int)=_ from e];by_cases c:n=i
  .rw[ae c,aa (by rw[hm];decide),aa];intro q;have:(AD (n:Int) (vr (ab p.l i).d b)).2=ZC:=by unfold AD;rw[aa];intro h;rcases h.1 with h|h<;>cases h
   rw[this]at q;cases q.1
  .rw[aa c];exact hb
 have hB:(ab (gC p i b).l (gC p i b).last).k=4\/(ab (gC p i b).l (gC p i b).last).k=6:=by
  rw[h1,show((p.l.length:Int)-1)=((p.l.length-1:Nat):Int) by omega]at Gd;rw[hq,h1,show((p.l.length:Int)-1)=((p.l.length-1:Nat):Int) by omega];rw[show ab (gC p i b).l ((p.l.length-1:Nat):Int)=_ from mS hi (ab p.l i).d b (p.l.length-1)];split
  next c=>rw[c]at Gd;omega
  .exact Gd
 rw[al0 (q:=gC p i b) (show 0<=p.ctx/\p.ctx<=256 from qT Ai) (by rw[hq,h1];show _=(((p.l.set i _).length:Nat):Int)-1;rw[AE]) (by show 1<=(p.l.set i _).length/\(p.l.set i _).length<=64;rw[AE];omega) hA hB]
theorem ra(hv:(AK p).2.2.2=0){I O:List BV}(F:Fix p I O)(hd:(O.getD i 0).getLsbD (ab p.l i).d.toNat=ZC):∀(f:Nat) (m n:Ms),GM p m->EQ (fun r=>(I.getD m.pc.toNat 0).getLsbD r=ZB) m n->rN (exec (gC p i b) f n)=rN (exec p f m)
 |0,m,n,g,h=>by show rN (0,0,n)=rN (0,0,m);show Out.mk 0 (if(0:Int)=1 then n.r 0 else 0) n.cx n.tr 0=Out.mk 0 (if(0:Int)=1 then m.r 0 else 0) m.cx m.tr 0;rw[aa Os,aa Os,h.cx,h.tr]
 |f+1,m,n,g,h=>by
   obtain⟨k,Fk⟩:=cj g.p0;have Hj:k<p.l.length:=by have:=g.p1;omega
   have Tu:p.l.length<=64:=(bj hl Ai).1.2.2;have hx:AL (ab p.l m.pc)=ZB:=fT hl Ai g.p0 g.p1;obtain⟨g1,g2⟩:=arM hl hv g;have QY:∀m':Ms,m'.pc.toNat∈nx p k->∀r:Nat,(I.getD m'.pc.toNat 0).getLsbD r=ZB->(O.getD k 0).getLsbD r=ZB:=fun m' hm r hr=>by rw[F.oo k Hj];exact(fD _ _ _ _).2 (.inr ⟨_,hm,hr⟩)
   have h':EQ (fun r=>Rd (ab p.l m.pc) r\/(O.getD k 0).getLsbD r=ZB/\¬Wr (ab p.l m.pc) r) m n:=h.weak fun r hr q=>by
    rw[Fk,cy,F.ii k Hj,vb Fn];rw[Fk]at q;rcases q with q|⟨q,q2⟩
    .exact .inr q
    .exact .inl ⟨q,by simpa[Wr,wB]using q2⟩
   have eq:ab (gC p i b).l n.pc=if k=i then vr (ab p.l i).d b else ab p.l m.pc:=by rw[h.pc,Fk];exact mS hi (ab p.l i).d b k
   unfold exec;by_cases c:k=i
   .rw[ae c]at eq;have hci:(i:Int)=m.pc:=Fn;have Dj:=hk;have E5:=hd;rw[hci]at Dj E5 eq;rw[<-c]at E5;have h3:halt p m=0:=by
     unfold halt lI at g1 ⊢;split
     next q=>rw[ae q]at g1;exact ak rfl g1
     .rename_i q;rw[aa q]at g1;rcases Dj with Dj|Dj
      .simp[Dj]
      .rw[ae Dj]at g1 ⊢;split
       .rfl
       next q2=>rw[aa q2]at g1;exact ak rfl g1
    have h4:halt (gC p i b) n=0:=by unfold halt;rw[eq];have e:aV (vr (ab p.l m.pc).d b)=0:=rfl;unfold lI;rw[e,nY,aa (by show¬(BitVec.toInt _≠0);rw[show FL 0=0#64 from rfl];simp)];rfl
    rw[ae h3,ae h4];refine ra hv F hd f _ _ (g2 h3) ?_;have d:=aZ hx;have KM:(De p m).pc.toNat∈nx p k:=atc hx Fk Fn h3;have en:De (gC p i b) n=⟨n.rg.set (ab p.l m.pc).d.toNat (ML 11 64 (n.r (ab p.l m.pc).d) (ZG .u64 b)),Ac .or .i64 n.st (AC (ab p.l m.pc).d),Ac .add .i64 n.pc 1,n.an,n.tr,n.cx,n.fm⟩:=by rw[V4 (by rw[eq];rfl),eq];rfl
    have em:∃v,De p m=⟨m.rg.set (ab p.l m.pc).d.toNat v,Ac .or .i64 m.st (AC (ab p.l m.pc).d),Ac .add .i64 m.pc 1,m.an,m.tr,m.cx,m.fm⟩:=Dj.elim (fun q=>⟨_,V4 q⟩) (fun q=>⟨_,atw q⟩);obtain⟨v,em⟩:=em;rw[en];rw[em]at KM ⊢;refine⟨by show Ac .or .i64 n.st _=Ac .or .i64 m.st _;rw[h.st],by show Ac .add .i64 n.pc 1=Ac .add .i64 m.pc 1;rw[h.pc],h.an,h.tr,h.cx,h.fm,(YU ..).trans h.ml,(YU ..).trans h.nl,fun r hr q=> ?_⟩;show(n.rg.set _ _).getD r 0=(m.rg.set _ _).getD r 0;have q2:=QY _ KM r q;have Bg:(ab p.l m.pc).d≠(r:Int):=fun e=>by rw[e,cy,q2]at E5;cases E5
    rw[RJ d.1 d.2.1 h.nl,RJ d.1 d.2.1 h.ml,aa Bg,aa Bg];exact h'.rg r hr (.inr ⟨q2,Sg hx hr (.inl ⟨Dj,Bg⟩)⟩)
   .rw[aa c]at eq;have e1:halt (gC p i b) n=halt p m:=by
     unfold halt;rw[eq];exact h'.halt hx
    rw[e1];by_cases hh:halt p m=0
    .rw[ae hh,ae hh];have KM:(De p m).pc.toNat∈nx p k:=atc hx Fk Fn hh;have e2:De (gC p i b) n={dv n (ab p.l m.pc)with pc:=ET n (ab p.l m.pc)}:=by unfold De;rw[eq]
     have q:=h'.body hx;rw[e2,h'.to hx];refine ra hv F hd f _ _ (g2 hh) (EQ.weak (V:=fun r=>(O.getD k 0).getLsbD r=ZB) {q with pc:=rfl} fun r hr u=>QY _ KM r u)
    .rw[aa hh,aa hh];show rN (halt p m,(f:Int),n)=rN (halt p m,(f:Int),m);unfold rN;show Out.mk _ (if halt p m=1 then n.r 0 else 0) n.cx n.tr _=Out.mk _ (if halt p m=1 then m.r 0 else 0) m.cx m.tr _;rw[h.cx,h.tr];by_cases h1:halt p m=1
     .rw[ae h1,ae h1];have h6:(ab p.l m.pc).k=6:=by
       unfold halt lI at h1;split at h1
       .cases h1
       .split at h1
        .split at h1<;>cases h1
        .split at h1
         .split at h1<;>cases h1
         .split at h1
          .split at h1<;>cases h1
          .split at h1
           next q=>exact q
           .cases h1
      rw[h'.r (i:=0) Fn (.inl (avA hx h6))]
     .rw[aa h1,aa h1]
theorem ahT(hv:(AK p).2.2.2=0)(hm:AL (vr (ab p.l i).d b)=ZB){I O:List BV}(F:Fix p I O)(hd:(O.getD i 0).getLsbD (ab p.l i).d.toNat=ZC)(hc:RowsIn [ZA .u8] cx)(ha:RowsIn [ZA .u64] an)(CQ:(cx.length:Int)=p.ctx)(h0:0<=fu)(h1:fu<=10000):
  (Cm p cx an fu).2=0/\Cm (gC p i b) cx an fu=Cm p cx an fu:=by
 have ho:jS p cx fu=0:=zE Ai CQ h0 h1;have hq:jS (gC p i b) cx fu=0:=zE (ad9 hl Ai hi hk hm) CQ h0 h1;have g:=al6 hl hv hc ha CQ;unfold Cm;rw[ho,hq];exact⟨rfl,by show(rN _,(0:Int))=(rN _,(0:Int));rw[ra hl Ai hi hk hv F hd fu.toNat _ _ g (EQ.refl _ rfl)]⟩
end
def ap7(X:BV)(h0:0<=d)(h1:d<=10):(Ac .and .i64 (Ac .shr .i64 X.toInt d) 1==1)=X.getLsbD d.toNat:=by rw[amx];obtain⟨n,rfl⟩:=cj h0;rw[cy];show(Int.fdiv X.toInt (2 ^ min ((n:Nat):Int).toNat 64) % 2==1)=X.toNat.testBit n;rw[Nat.testBit_eq_decide_div_mod_eq,BitVec.toInt_eq_toNat_cond,Int.fdiv_eq_ediv_of_nonneg _ (Int.le_of_lt (Int.pow_pos Os))];have:=X.isLt;have hn:n=0\/n=1\/n=2\/n=3\/n=4\/n=5\/n=6\/n=7\/n=8\/n=9\/n=10:=Fn;rw[ar,cb,ax];rcases hn with rfl|rfl|rfl|rfl|rfl|rfl|rfl|rfl|rfl|rfl|rfl<;>simp<;>split<;>omega
open Go.ChangeShapes Go.WideShapes
def bV:=aI Ins.eta (Prog.eta)
def mH{p:Prop}(k:q2)(h:p->q=q2:=by intro e;(try simp only[e,bV,ai,-eq_self]);rfl):p->q:=fun e=>(h e).symm▸k
def afg:List (Nat×TI):=[(3,C1),
 (4,EM),
 (22,vT),
 (24,vS),
 (39,hZ),
 (41,⟨ZB,9,(zN 9 220090000),[(0,39),(1,39),(2,39),(3,39),(4,4),(5,39),(6,39),(7,3),(8,3)],ZD,ZD,ZC,ZC,ZD,24,ZC,ZD,ZC,0⟩)]
def pU:∀t i,(t,i)∈afg->TIok ZF t i:=bK Ch Ch (by kernel_rfl)
def c_vrd:Cd:=⟨20,[.agg kIns],[.one (.int .i64)],rd_Ins fun x _=>[.z (C7 x)],T0⟩
def Ss:Tr:=(.u (.cons (.f .shl .i64 (.p 1) (.w 6)) .nil))
def UO:Tr:=(.u (.cons (.f .or .i64 (.f .shl .i64 (.p 1) (.w 5)) (.p 0)) .nil))
def Pg:Tr:=(.u (.cons (.f .or .i64 (.f .shl .i64 (.p 1) (.w 5)) (.f .shl .i64 (.p 1) (.w 6))) .nil))
def UP:Tr:=(.br (.eq (.w 0) (.p 5))
(.call 1 [.int .i64] (.cons (.w 8) .nil) 10
(.br (.lt (.f .add .i64 (.w 10) (.p 1)) (.p 0))
.panic
(.u (.cons (.f .sub .i64 (.f .shl .i64 (.p 1) (.f .add .i64 (.w 10) (.p 1))) (.p 2)) .nil))))
(.br (.eq (.w 0) (.p 6))
(.u (.cons (.p 1) .nil))
(.u (.cons (.p 0) .nil))))
def am2:Tr:=
(.call 0 [.bool] (.vs 0 4 (.j (.s 4) (.vs 5 4 .nil))) 9
(.br (.s 9)
(.br (.lt (.w 5) (.p 0))
.panic
(.br (.lt (.w 6) (.p 0))
.panic
(.br (.s 4)
(.br (.eq (.w 0) (.p 0))
(.br (.eq (.w 1) (.p 11))
 Ss
 Pg)
(.br (.eq (.w 0) (.p 1))
 Ss
(.br (.eq (.w 0) (.p 2))
 Pg
(.br (.eq (.w 0) (.p 3))
 Pg
 UP))))
(.br (.eq (.w 0) (.p 0))
(.br (.eq (.w 1) (.p 11))
(.u (.cons (.p 0) .nil))
 UO)
(.br (.eq (.w 0) (.p 1))
 Ss
(.br (.eq (.w 0) (.p 2))
 Pg
(.br (.eq (.w 0) (.p 3))
 UO
 UP)))))))
(.u (.cons (.p 0) .nil))))
def atT:c_vrd.Ok ZF:=
 A4 am2 (v_Ins []) pU (Aq R4<|Aq zT AR) func20<|iY fun x hx hp ρ g=>by
 simp only[eD,AT,ZE]at g;simp only[am2,UP,Pg,UO,Ss,c_nmay,c_iargs,c_vrd,eD,Am,YI,ZE,-eq_self,bV,ai,g];refine mH ?_;apply aI<;>intro c0;apply aI<;>intro c1
 .exact XE
 apply aI<;>intro c2
 .exact XE
 apply aI<;>intro c3;apply aI<;>intro c4;apply aI<;>intro c5
 .exact Xt
 .exact Xt
 apply aI<;>intro c6
 .exact Xt
 apply aI<;>intro c7
 .exact Xt
 apply aI<;>intro c8
 .exact Xt
 apply aI<;>intro c9;refine mH ?_;apply aI<;>intro CA
 .exact XE
 .exact Xt
 apply aI<;>intro DD
 .exact Xt
 .exact Xt
 apply aI<;>intro Cp;apply aI<;>intro C9
 .exact Xt
 .exact Xt
 apply aI<;>intro DE
 .exact Xt
 apply aI<;>intro DI
 .exact Xt
 apply aI<;>intro Ew
 .exact Xt
 apply aI<;>intro Ec;refine mH ?_;apply aI<;>intro DJ
 .exact XE
 .exact Xt
 apply aI<;>intro D7
 .exact Xt
 .exact Xt
 .exact Xt
def c_vwr:Cd:=⟨19,[.agg kIns],[.one (.int .i64)],rd_Ins fun x _=>[.z (JC x)],T0⟩
def Vo:Tr:=(.br (.lt (.w 5) (.p 0))
.panic
(.u (.cons (.f .shl .i64 (.p 1) (.w 5)) .nil)))
def am1:Tr:=
(.call 0 [.bool] (.vs 0 4 (.j (.s 4) (.vs 5 4 .nil))) 9
(.br (.s 9)
(.br (.eq (.w 0) (.p 0))
 Vo
(.br (.eq (.w 0) (.p 1))
 Vo
(.br (.eq (.w 0) (.p 5))
(.u (.cons (.p 63) .nil))
(.u (.cons (.p 0) .nil)))))
(.u (.cons (.p 0) .nil))))
def avL:c_vwr.Ok ZF:=
 A4 am1 (v_Ins []) pU (Aq R4 AR) func19<|iY fun x hx hp ρ g=>by
 simp only[eD,AT,ZE]at g;simp only[am1,Vo,c_nmay,c_vwr,eD,Am,YI,ZE,-eq_self,bV,ai,g];refine mH ?_;apply aI<;>intro c0;apply aI<;>intro c1;apply aI<;>intro c2
 ·(have q:=aZ c0;simp at *;omega)
 .exact X9
 apply aI<;>intro c3;apply aI<;>intro c4
 ·(have q:=aZ c0;simp at *;omega)
 .exact X9
 apply aI<;>intro c5
 .exact X9
 .exact X9
 .exact X9
def ge:List Dt->Prop
 |[.z x0,.l x1]=>let f (pr:Prog):Prop:=pr.l.length<=maxLen;f ⟨x0,x1⟩
 |_=>False
def c_icheck:Cd:=⟨12,[.agg kProg],[.one (.int .i64),.one (.int .i64)],rd_Prog fun pr _=>[.z ((aH pr).1),.z ((aH pr).2)],ge⟩
def Vm:Tr:=(.next 0 (.cons (.f .add .i64 (.w 4) (.p 1)) .nil))
def Vn:E:=(.get (.g 1) (.f .sub .i64 (.len (.g 1)) (.p 1)) 0)
def qk:Tr:=
(.call 0 [.bool] (.cons (.w 0) (.cons (.p 0) (.cons (.p 256) .nil))) 2
(.br (.s 2)
(.call 0 [.bool] (.cons (.f .sub .i64 (.len (.g 1)) (.p 1)) (.cons (.p 0) (.cons (.p 63) .nil))) 3
(.br (.s 3)
(.loop 0 4 [.int .i64] (.cons (.p 0) .nil)
(.br (.lt (.w 4) (.len (.g 1)))
(.br (.lt (.w 4) (.p 0))
.panic
(.call 1 [.bool] (.ins (.g 1) (.w 4) .nil) 5
(.br (.s 5)
(.call 2 [.int .i64,.bool] (.cons (.w 4) (.ins (.g 1) (.w 4) .nil)) 6
(.br (.s 7)
(.call 0 [.bool] (.cons (.w 6) (.cons (.p 0) (.cons (.f .sub .i64 (.len (.g 1)) (.p 1)) .nil))) 8
(.br (.s 8)
 Vm
(.u (.cons (.w 4) (.cons (.p 32) .nil)))))
 Vm))
(.u (.cons (.w 4) (.cons (.p 31) .nil))))))
(.br (.lt (.f .sub .i64 (.len (.g 1)) (.p 1)) (.p 0))
.panic
(.br (.lt (.f .sub .i64 (.len (.g 1)) (.p 1)) (.len (.g 1)))
(.br (.eq Vn (.p 4))
(.u (.cons (.p 0) (.cons (.p 0) .nil)))
(.br (.eq Vn (.p 6))
(.u (.cons (.p 0) (.cons (.p 0) .nil)))
(.u (.cons (.f .sub .i64 (.len (.g 1)) (.p 1)) (.cons (.p 33) .nil)))))
.panic))))
(.u (.cons (.p 0) (.cons (.p 3) .nil)))))
(.u (.cons (.p 0) (.cons (.p 2) .nil)))))
def aha:cG afg (FH 0 [c_iwi,c_nmay,c_itgt]) [] [(7,[.tmpI 26 .i64]++Eb [(2,2),(5,4),(27,23)])] [] 200 f12 c_icheck.a c_icheck.r (tp c_icheck.r) (v_Prog []) qk:=FJ (by kernel_rfl)
def vg:c_icheck.Ok ZF:=
 GJ (hl:=.inr (.inl ⟨(fun xs (h:ge xs) L hL=>by unfold ge at h;split at h<;>first|exact h.elim|(simp at hL;subst hL;exact h)),rfl⟩)) qk (v_Prog []) pU (Aq Px<|Aq R4<|Aq R5 AR) func12 FD aha<|fQ fun pr hpr hp ρ g=>by
 simp only[c_icheck,ge,df,b2i_one,bV,ai]at hp;have As:=g;simp only[df,eD,AT,ZE]at g;simp only[qk,Vn,Vm,c_iwi,c_nmay,c_itgt,c_icheck,df,eD,Am,YI,ZE,-eq_self,bV,ai,g];refine mH ?_;apply aI<;>intro c0;refine mH ?_;apply aI<;>intro c1;refine⟨fun ds=>∃n:Nat,ds=[.z (n:Int)]/\n<=pr.l.length/\(Dm pr pr.l.length 0=Dm pr (pr.l.length-n) n),fun ds=>(pr.l.length-(dI ds 0).toNat),⟨0,rfl,Nat.zero_le _,rfl⟩,?_⟩;intro ρ1 A7 _ Bm;obtain⟨n,Bw,r1,r2⟩:=Bm;simp only[AY,Dt.z.injEq,and_true]at Bw;have g1:=(oZ A7 _ 0 Os).trans As;simp only[df,eD,AT,ZE]at g1;simp only[g1,Bw,ai,-eq_self];apply aI<;>intro c2;apply aI<;>intro c3
 .exact ak (Ae c3) Fn
 refine mH ?_;apply aI<;>intro c4;refine mH ?_;apply aI<;>intro c5;refine mH ?_;apply aI<;>intro c6
 .exact⟨⟨n+1,by rw[DV (YP.1 (Ae c2)) hp],YP.1 (Ae c2),r2.trans (wF (YP.1 (Ae c2)) (ac5 c4 (.inr c6)))⟩,by rw[DV (YP.1 (Ae c2)) hp];have:=YP.1 (Ae c2);show pr.l.length-(((n+1:Nat):Int)).toNat<pr.l.length-((n:Int)).toNat;omega⟩
 .rw[sO c0 c1 r2 (YP.1 (Ae c2)) (ac4 c4 c5 c6)];try rfl
 .exact⟨⟨n+1,by rw[DV (YP.1 (Ae c2)) hp],YP.1 (Ae c2),r2.trans (wF (YP.1 (Ae c2)) (ac5 c4 (.inl c5)))⟩,by rw[DV (YP.1 (Ae c2)) hp];have:=YP.1 (Ae c2);show pr.l.length-(((n+1:Nat):Int)).toNat<pr.l.length-((n:Int)).toNat;omega⟩
 .rw[sO c0 c1 r2 (YP.1 (Ae c2)) (ym c4)];try rfl
 apply aI<;>intro c7
 .have q:=zQ c1 hp;have w:=Ae c7;unfold Prog.last at q;omega
 apply aI<;>intro c8;apply aI<;>intro c9
 .rw[ol c0 c1 r2 (by have:=Af c2;omega),ae (.inl (Bs c9))];try rfl
 apply aI<;>intro CA
 .rw[ol c0 c1 r2 (by have:=Af c2;omega),ae (.inr (Bs CA))];try rfl
 .rw[ol c0 c1 r2 (by have:=Af c2;omega),aa (fun h=>h.elim (BM c9) (BM CA))];try rfl
 .have q:=zQ c1 hp;have w:=Af c8;unfold Prog.last at q;omega
 .rw[adX c0 c1];try rfl
 .rw[adY c0];try rfl
def Mem.eta(a:Mem):(⟨a.b0,a.l0,a.w0,a.b1,a.l1,a.w1,a.b2,a.l2,a.w2,a.b3,a.l3,a.w3⟩:Mem)=a:=rfl
def rd_Mem(k:Mem->List Dt->List Dt):List Dt->List Dt
 |.z z0::.l z1::.z z2::.z z3::.l z4::.z z5::.z z6::.l z7::.z z8::.z z9::.l z10::.z z11::r=>k ⟨z0,z1,(z2==1),z3,z4,(z5==1),z6,z7,(z8==1),z9,z10,(z11==1)⟩ r
 |_=>[]
def Mem.ok(a:Mem):Prop:=Aj .u64 a.b0=ZB/\RowsIn [ZA .u8] a.l0/\Aj .u64 a.b1=ZB/\RowsIn [ZA .u8] a.l1/\Aj .u64 a.b2=ZB/\RowsIn [ZA .u8] a.l2/\Aj .u64 a.b3=ZB/\RowsIn [ZA .u8] a.l3
def kMem:List CK:=[.int .u64,.sl [ZA .u8] 5,.bool,.int .u64,.sl [ZA .u8] 5,.bool,.int .u64,.sl [ZA .u8] 5,.bool,.int .u64,.sl [ZA .u8] 5,.bool]
def v_Mem(t:List VK):List VK:=.int .u64::.list [ZA .u8]::.bool::.int .u64::.list [ZA .u8]::.bool::.int .u64::.list [ZA .u8]::.bool::.int .u64::.list [ZA .u8]::.bool::t
def d_Mem(a:Mem)(t:List Dt):List Dt:=.z a.b0::.l a.l0::.z (Ay a.w0)::.z a.b1::.l a.l1::.z (Ay a.w1)::.z a.b2::.l a.l2::.z (Ay a.w2)::.z a.b3::.l a.l3::.z (Ay a.w3)::t
def aiZ{l:List VK}{p:List Dt->Prop}(h:∀a:Mem,Mem.ok a->ba l fun r=>p (d_Mem a r)):ba (v_Mem l) p:=fun x0 Dr x1 DY x2 x3 Hc x4 K0 x5 x6 MS x7 MT x8 x9 Xb Iq MQ Jq=>h ⟨x0,x1,x2,x3,x4,x5,x6,x7,x8,x9,Iq,Jq⟩ ⟨Dr,DY,Hc,K0,MS,MT,Xb,MQ⟩
def alh(k:Mem->List Dt->List Dt)(a:Mem)(t:List Dt):rd_Mem k (d_Mem a t)=k a t:=by simp only[rd_Mem,d_Mem,b2i_one]
def Oy:=aI @v_Mem.eq_1 (aI @d_Mem.eq_1 (aI @rd_Mem.eq_1 (@kMem.eq_1)))
def oE(b:Nat):E:=.f .sub .u64 (.w 12) (.w b)
def hE(b:Nat):E:=.f .add .i64 (.F .i64 (oE b)) (.w 13)
def dE(b l:Nat):E:=.ldrop (.ltake (.g l) (hE b)) (oE b)
def N7(k v:Nat)(e:Int):Tr:=.loop k v [.int .u64,.int .i64] (.cons (.p 0) (.cons (.p (-1)) .nil)) (.br (.lt (.w (v+1)) (.p 0)) (.u (.cons (.w v) (.cons (.p e) .nil))) .panic)
def VZ(b l k v:Nat):Tr:=.loop k v [.int .u64,.int .i64] (.cons (.p 0) (.cons (.f .sub .i64 (.len (dE b l)) (.p 1)) .nil))
 (.br (.lt (.w (v+1)) (.p 0)) (.u (.cons (.w v) (.cons (.p 0) .nil)))
 (.br (.lt (.w (v+1)) (.len (dE b l)))
 (.br (.lt (.f .add .i64 (oE b) (.w (v+1))) (.p 0)) (.stuck 54)
 (.br (.lt (.f .add .i64 (oE b) (.w (v+1))) (.len (.g l)))
 (.next k (.cons (.f .or .u64 (.f .shl .u64 (.w v) (.p 8)) (.F .u64 (.get (.g l) (.f .add .i64 (oE b) (.w (v+1))) 0))) (.cons (.f .sub .i64 (.w (v+1)) (.p 1)) .nil)))
 (.stuck 54))) .panic))
def Rp(b l w k v:Nat):Tr:=.br (.lt (oE b) (.p 0)) .panic (.br (.lt (hE b) (oE b)) .panic (.br (.lt (.len (.g l)) (hE b)) .panic (.br (.s w) (VZ b l k v) (VZ b l k v))))
def Ro(b l k v:Nat)(y n:Tr):Tr:=.cut k v [.bool]
 (.br (.lt (.w 12) (.w b)) (.next k (.j (.tt ZB) .nil)) (.br (.lt (.F .u64 (.len (.g l))) (oE b)) (.next k (.j (.tt ZB) .nil))
 (.next k (.j (.lt (.f .sub .u64 (.F .u64 (.len (.g l))) (oE b)) (.F .u64 (.w 13))) .nil)))) (.br (.s v) n y)
structure RdF(at_ n B:Int)(L:LL)(b l:Nat)(ρ:Env):Prop where
 a:ρ.i 12=at_
 n:ρ.i 13=n
 b:ρ.i b=B
 l:ρ.l l=L
section
variable {sp:Spec}{ρ:Env}{I:Nat->List Dt->Prop}{at_ n B x y:Int}{L:LL}{b l w k v:Nat}
def RdF.ag(h:RdF at_ n B L b l ρ)(ha:Ag v ρ ρ')(hv:14<=v)(hb:b<14)(hl:l<14):RdF at_ n B L b l ρ':=⟨kI ha h.a Fn,kI ha h.n Fn,kI ha h.b Fn,kL ha h.l Fn⟩
def vI:(N7 k v y).asks sp (fun ρ e=>e.D ρ=[.z 0,.z y]) ρ I:=by
 refine⟨fun ds=>ds=[.z 0,.z (-1)],fun _=>0,rfl,?_⟩;intro ρ1 _ _ hi;simp only[varsD,varD,AY,Dt.z.injEq,and_true]at hi;refine⟨fun _=> ?_,fun c=> ?_⟩
 .show[Dt.z (ρ1.i v),.z y]=_;rw[hi.1]
 .simp only[E.B,E.I,hi.2]at c;exact ak c Os
def adh(F:RdF at_ n B L b l ρ)(W:Win B L at_ n)(hl:L.length<=1048576)(hr:RowsIn [ZA .u8] L)(hv:14<=v)(hb:b<14)(GZ:l<14)(hx:x=Ce (BH B L at_ n)):(VZ b l k v).asks sp (fun ρ e=>e.D ρ=[.z x,.z 0]) ρ I:=by
 refine⟨fun ds=>∃j:Nat,ds=[.z (Ce ((BH B L at_ n).drop j)),.z ((j:Int)-1)]/\j<=n.toNat,fun ds=>(dI ds 1+1).toNat,⟨n.toNat,?_,Nat.le_refl _⟩,?_⟩
 .simp only[E.D,E.I,E.R,oE,hE,dE,F.a,F.n,F.b,F.l];exact W.init
 intro ρ1 ha _ hi;obtain⟨j,Bw,hj⟩:=hi;have F1:=F.ag ha hv hb GZ;simp only[varsD,varD,AY,Dt.z.injEq,and_true]at Bw;obtain⟨e0,e1⟩:=Bw;have w1:=W.lo;have w2:=W.hi;have w3:=W.len;simp only[Tr.asks,iL,E.B,E.I,E.R,E.D,oE,hE,dE,varsD,varD,e0,e1,F1.a,F1.n,F1.b,F1.l,W.sub,W.cv,W.add,W.win,-eq_self];refine⟨fun c=> ?_,fun c=>⟨fun c2=>⟨fun c3=> ?_,fun c3=>⟨fun c4=> ?_,fun c4=> ?_⟩⟩,fun c2=> ?_⟩⟩
 .obtain rfl:j=0:=by have:=Ae c;omega
  rw[hx,List.drop_zero]
 all_goals obtain⟨i,rfl⟩:∃i,j=i+1:=⟨j-1,by have:=Af c;omega⟩
 .rw[show(((i+1:Nat):Int)-1)=(i:Int) by omega,(W.byte hl Fn).1]at c3;exact ak (Ae c3) Fn
 .exact W.next hl hr hj
 .rw[show(((i+1:Nat):Int)-1)=(i:Int) by omega,(W.byte hl Fn).1]at c4;exact ak (Af c4) Fn
 .exact ak (Af c2) Fn
def oW(F:RdF at_ n B L b l ρ)(W:Win B L at_ n)(hl:L.length<=1048576)(hr:RowsIn [ZA .u8] L)(hv:14<=v)(hb:b<14)(GZ:l<14)(hx:x=Ce (BH B L at_ n)):(Rp b l w k v).asks sp (fun ρ e=>e.D ρ=[.z x,.z 0]) ρ I:=by
 have w1:=W.lo;have w2:=W.hi;have w3:=W.n1;have g:=adh (sp:=sp) (k:=k) (I:=I) F W hl hr hv hb GZ hx;refine⟨fun c=> ?_,fun _=>⟨fun c=> ?_,fun _=>⟨fun c=> ?_,fun _=>⟨fun _=>g,fun _=>g⟩⟩⟩⟩
 all_goals
  simp only[E.B,E.I,E.R,oE,hE,F.a,F.n,F.b,F.l,W.sub,W.cv,W.add]at c;exact ak (Ae c) Fn
def oX{G:Env->E->Prop}{Y N:Tr}(F:RdF at_ n B L b l ρ)(hv:14<=v)(hb:b<14)(GZ:l<14)(ha:Aj .u64 at_=ZB)(hB:0<=B)(hl:L.length<=1048576)(h1:1<=n)(h8:n<=8)(hy:∀ρ',Ag v ρ ρ'->inr B L at_ n=ZB->Y.asks sp G ρ' I)(hn:∀ρ',Ag v ρ ρ'->inr B L at_ n=ZC->N.asks sp G ρ' I):(Ro b l k v Y N).asks sp G ρ I:=by
 refine⟨fun ds=>ds=[.z (Ay (!inr B L at_ n))],?_,?_⟩
 .simp only[Tr.asks,iL,E.B,E.I,E.R,E.D,oE,F.a,F.n,F.b,F.l,-eq_self];refine⟨fun c=>congrArg (fun x=>[Dt.z (Ay x)]) (xQ c),fun c=>⟨fun c2=>congrArg (fun x=>[Dt.z (Ay x)]) (qS ha hB h1 c hl c2),fun c2=> ?_⟩⟩;rw[Jp (a:=n) Fn Fn];exact congrArg (fun x=>[Dt.z (Ay x)]) (mT ha hB h1 h8 c hl c2)
 intro ρ1 hg _ hi;have e:ρ1.b v = !inr B L at_ n:=by simp only[varsD,varD,AY,Dt.z.injEq,and_true,b2i_eq_iff]at hi;exact hi
 refine⟨fun c=>hn ρ1 hg ?_,fun c=>hy ρ1 hg ?_⟩
 .rw[show(E.s v).B ρ1=ρ1.b v from rfl,e]at c;simpa using c
 .rw[show(E.s v).B ρ1=ρ1.b v from rfl,e]at c;simpa using c
end
def afe:List (Nat×TI):=[(3,C1),
 (4,EM),
 (5,KB),
 (25,Pm),
 (43,hJ),
 (97,VE),
 (169,Ua),
 (170,T9),
 (172,T8)]
def ae6:∀t i,(t,i)∈afe->TIok ZF t i:=bK Ch Ch (by kernel_rfl)
def mj:List Dt->Prop
 |[.z x0,.l x1,.z x2,.z x3,.l x4,.z x5,.z x6,.l x7,.z x8,.z x9,.l Iq,.z Jq,.z x12,.z x13]=>let f (m:Mem) (at_:Int) (n:Int):Prop:=m.fit;f ⟨x0,x1,(x2==1),x3,x4,(x5==1),x6,x7,(x8==1),x9,Iq,(Jq==1)⟩ x12 x13
 |_=>False
def c_mread:Cd:=⟨123,[.ptr kMem,.one (.int .u64),.one (.int .i64)],[.one (.int .u64),.one (.int .i64)],rd_Mem fun m=>rdZ fun at_=>rdZ fun n _=>[.z (Ea m at_ n),.z (Fa m at_ n)],mj⟩
def abz:Tr:=
(.cut 0 14 []
(.br (.eq (.w 13) (.p 1))
(.next 0 .nil)
(.br (.eq (.w 13) (.p 2))
(.next 0 .nil)
(.br (.eq (.w 13) (.p 4))
(.next 0 .nil)
(.br (.eq (.w 13) (.p 8))
(.next 0 .nil)
(N7 1 14 2)))))
(Ro 0 1 1 14 (Rp 0 1 2 2 15) (Ro 3 4 2 15 (Rp 3 4 5 3 16) (Ro 6 7 3 16 (Rp 6 7 8 4 17) (Ro 9 10 4 17 (Rp 9 10 11 5 18) (N7 5 18 20))))))
def ak6:cG afe (FH 0 []) [(154,f154,[],[(5,[.top 15]++Eb [(8,2),(16,17)])]),(177,f177,[],[(3,[.tmpB 43]++Eb [(15,28)])])] [(3,[.tmpI 6 .u64,.tmpI 9 .i64]++Eb [(20,12)]),(999998,[])] [] 200 f123 c_mread.a c_mread.r (tp c_mread.r) (v_Mem [.int .u64,.int .i64]) abz:=FJ (by kernel_rfl)
def aro:c_mread.Ok ZF:=
 GJ (hl:=.inr (.inl ⟨(fun xs (h:mj xs) L hL=>by unfold mj at h;split at h<;>first|exact h.elim|(simp at hL;rcases hL with rfl|rfl|rfl|rfl;exact cO h.l0 Os;exact cO h.l1 Os;exact cO (Nat.le_of_eq h.l2) Os;exact cO h.l3 Os)),rfl⟩)) abz (v_Mem [.int .u64,.int .i64]) ae6 AR func123 (Da func154 (Da func177 FD)) ak6<|aiZ fun m hm=>fun at_ Hf n hn hp ρ g=>by
 have hF:c_mread.F (d_Mem m [.z at_,.z n])=[.z (Ea m at_ n),.z (Fa m at_ n)]:=by simp only[c_mread,alh,rdZ]
 rw[hF];have hp:m.fit:=by simpa only[c_mread,mj,Oy,b2i_one,Mem.eta]using hp
 have g':Dt.z (ρ.i 0)::.l (ρ.l 1)::.z (Ay (ρ.b 2))::.z (ρ.i 3)::.l (ρ.l 4)::.z (Ay (ρ.b 5))::.z (ρ.i 6)::.l (ρ.l 7)::.z (Ay (ρ.b 8))::.z (ρ.i 9)::.l (ρ.l 10)::.z (Ay (ρ.b 11))::.z (ρ.i 12)::[.z (ρ.i 13)]=.z m.b0::.l m.l0::.z (Ay m.w0)::.z m.b1::.l m.l1::.z (Ay m.w1)::.z m.b2::.l m.l2::.z (Ay m.w2)::.z m.b3::.l m.l3::.z (Ay m.w3)::.z at_::[.z n]:=g;simp only[AY,Dt.z.injEq,Dt.l.injEq,and_true]at g';obtain⟨g0,g1,-,g3,g4,-,g6,g7,-,g9,g10,-,S8,PM⟩:=g';obtain⟨-,r0,-,r1,-,r2,-,r3⟩:=hm;have l0:m.l0.length<=1048576:=cO hp.l0 Os;have l1:m.l1.length<=1048576:=cO hp.l1 Os;have l2:m.l2.length<=1048576:=cO (Nat.le_of_eq hp.l2) Os;have l3:m.l3.length<=1048576:=cO hp.l3 Os;have b0:0<=m.b0:=by rw[hp.b0];decide
 have b1:0<=m.b1:=by rw[hp.b1];decide
 have b2:0<=m.b2:=by rw[hp.b2];decide
 have b3:0<=m.b3:=by rw[hp.b3];decide
 have F0:RdF at_ n m.b0 m.l0 0 1 ρ:=⟨S8,PM,g0,g1⟩
 have F1:RdF at_ n m.b1 m.l1 3 4 ρ:=⟨S8,PM,g3,g4⟩
 have F2:RdF at_ n m.b2 m.l2 6 7 ρ:=⟨S8,PM,g6,g7⟩
 have F3:RdF at_ n m.b3 m.l3 9 10 ρ:=⟨S8,PM,g9,g10⟩
 clear g g0 g1 g3 g4 g6 g7 g9 g10;refine⟨fun ds=>ds=[]/\bc n=ZB,?_,?_⟩
 .have q:∀{x:Int},(E.eq (.w 13) (.p x)).B ρ=(n==x):=fun {x}=>by simp only[E.B,E.I,PM]
  simp only[Tr.asks,iL,q];refine⟨fun c=>⟨rfl,by simp[bc,Bs c]⟩,fun c0=>⟨fun c=>⟨rfl,by simp[bc,Bs c]⟩,fun c1=>⟨fun c=>⟨rfl,by simp[bc,Bs c]⟩,fun c2=>⟨fun c=>⟨rfl,by simp[bc,Bs c]⟩,fun c3=> ?_⟩⟩⟩⟩;have hs:bc n=ZC:=by simp[bc,BM c0,BM c1,BM c2,BM c3]
  have e:Ea m at_ n=0/\Fa m at_ n=2:=by simp[Ea,Fa,hs]
  rw[e.1,e.2];exact vI
 intro ρ' ha _ hi;obtain⟨_,hs⟩:=hi;have hn3:=lz hs;have h1:1<=n:=Fn;have h8:n<=8:=Fn;replace F0:=F0.ag ha Os Os Os;replace F1:=F1.ag ha Os Os Os;replace F2:=F2.ag ha Os Os Os;replace F3:=F3.ag ha Os Os Os;clear ha;refine oX F0 Os Os Os Hf b0 l0 h1 h8 (fun ρ' ha f0=> ?_) (fun ρ' ha f0=> ?_)
 .have e:Ea m at_ n=Ce (BH m.b0 m.l0 at_ n)/\Fa m at_ n=0:=by simp[Ea,Fa,Mem.reg,hs,f0]
  rw[e.2];exact oW (F0.ag ha Os Os Os) (Win.of f0 Hf b0 l0 h1 h8) l0 r0 Os Os Os e.1
 replace F1:=F1.ag ha Os Os Os;replace F2:=F2.ag ha Os Os Os;replace F3:=F3.ag ha Os Os Os;clear ha F0;refine oX F1 Os Os Os Hf b1 l1 h1 h8 (fun ρ' ha f1=> ?_) (fun ρ' ha f1=> ?_)
 .have e:Ea m at_ n=Ce (BH m.b1 m.l1 at_ n)/\Fa m at_ n=0:=by simp[Ea,Fa,Mem.reg,hs,f0,f1]
  rw[e.2];exact oW (F1.ag ha Os Os Os) (Win.of f1 Hf b1 l1 h1 h8) l1 r1 Os Os Os e.1
 replace F2:=F2.ag ha Os Os Os;replace F3:=F3.ag ha Os Os Os;clear ha F1;refine oX F2 Os Os Os Hf b2 l2 h1 h8 (fun ρ' ha f2=> ?_) (fun ρ' ha f2=> ?_)
 .have e:Ea m at_ n=Ce (BH m.b2 m.l2 at_ n)/\Fa m at_ n=0:=by simp[Ea,Fa,Mem.reg,hs,f0,f1,f2]
  rw[e.2];exact oW (F2.ag ha Os Os Os) (Win.of f2 Hf b2 l2 h1 h8) l2 r2 Os Os Os e.1
 replace F3:=F3.ag ha Os Os Os;clear ha F2;refine oX F3 Os Os Os Hf b3 l3 h1 h8 (fun ρ' ha f3=> ?_) (fun ρ' ha f3=> ?_)
 .have e:Ea m at_ n=Ce (BH m.b3 m.l3 at_ n)/\Fa m at_ n=0:=by simp[Ea,Fa,Mem.reg,hs,f0,f1,f2,f3]
  rw[e.2];exact oW (F3.ag ha Os Os Os) (Win.of f3 Hf b3 l3 h1 h8) l3 r3 Os Os Os e.1
 have e:Ea m at_ n=0/\Fa m at_ n=20:=by simp[Ea,Fa,Mem.reg,hs,f0,f1,f2,f3]
 rw[e.1,e.2];exact vI
structure Mach where
 r0:Int
 r1:Int
 r2:Int
 r3:Int
 r4:Int
 r5:Int
 r6:Int
 r7:Int
 r8:Int
 r9:Int
 r10:Int
def Mach.eta(a:Mach):(⟨a.r0,a.r1,a.r2,a.r3,a.r4,a.r5,a.r6,a.r7,a.r8,a.r9,a.r10⟩:Mach)=a:=rfl
def rd_Mach(k:Mach->List Dt->List Dt):List Dt->List Dt
 |.z z0::.z z1::.z z2::.z z3::.z z4::.z z5::.z z6::.z z7::.z z8::.z z9::.z z10::r=>k ⟨z0,z1,z2,z3,z4,z5,z6,z7,z8,z9,z10⟩ r
 |_=>[]
def Mach.ok(a:Mach):Prop:=Aj .u64 a.r0=ZB/\Aj .u64 a.r1=ZB/\Aj .u64 a.r2=ZB/\Aj .u64 a.r3=ZB/\Aj .u64 a.r4=ZB/\Aj .u64 a.r5=ZB/\Aj .u64 a.r6=ZB/\Aj .u64 a.r7=ZB/\Aj .u64 a.r8=ZB/\Aj .u64 a.r9=ZB/\Aj .u64 a.r10=ZB
def kMach:List CK:=[.any,.any,.any,.int .u64,.int .u64,.int .u64,.int .u64,.int .u64,.int .u64,.int .u64,.int .u64,.int .u64,.int .u64,.int .u64,.any,.any,.any,.any,.any,.any,.any,.any,.any,.any,.any,.any,.any,.any,.any,.any,.any,.any,.any,.any,.any,.any,.any,.any,.any,.any,.any,.any,.any,.any,.any,.any,.any,.any,.any,.any,.any,.any,.any,.any,.any,.any,.any,.any,.any,.any,.any,.any,.any,.any,.any,.any,.any,.any,.any,.any,.any,.any,.any,.any,.any,.any,.any,.any,.any,.any,.any,.any,.any,.any]
def v_Mach(t:List VK):List VK:=.int .u64::.int .u64::.int .u64::.int .u64::.int .u64::.int .u64::.int .u64::.int .u64::.int .u64::.int .u64::.int .u64::t
def d_Mach(a:Mach)(t:List Dt):List Dt:=.z a.r0::.z a.r1::.z a.r2::.z a.r3::.z a.r4::.z a.r5::.z a.r6::.z a.r7::.z a.r8::.z a.r9::.z a.r10::t
def al8{l:List VK}{p:List Dt->Prop}(h:∀a:Mach,Mach.ok a->ba l fun r=>p (d_Mach a r)):ba (v_Mach l) p:=fun x0 Dr x1 DY x2 HT x3 Hc x4 K0 x5 MR x6 MS x7 MT x8 PP x9 Xb Iq MQ=>h ⟨x0,x1,x2,x3,x4,x5,x6,x7,x8,x9,Iq⟩ ⟨Dr,DY,HT,Hc,K0,MR,MS,MT,PP,Xb,MQ⟩
def xi:=aI @v_Mach.eq_1 (aI @d_Mach.eq_1 (aI @rd_Mach.eq_1 (@kMach.eq_1)))
def EH(m:Mach)(x:Ins):Int:=if x.br=ZB then[m.r0,m.r1,m.r2,m.r3,m.r4,m.r5,m.r6,m.r7,m.r8,m.r9,m.r10].getD x.s.toNat 0 else IntKind.u64.wrap x.imm
def du:=aI Mem.eta (Mach.eta)
def anz{p:Prop}(k:q2)(h:p->q=q2:=by intro e;(try simp only[e,bV,ai,du,-eq_self]);rfl):p->q:=fun e=>(h e).symm▸k
def afd:List (Nat×TI):=[(2,DA),
 (3,C1),
 (4,EM),
 (5,KB),
 (22,vT),
 (24,vS),
 (25,Pm),
 (26,SG),
 (39,hZ),
 (41,rK),
 (43,hJ),
 (44,SF),
 (97,VE),
 (98,asM),
 (99,asL),
 (101,amT),
 (103,amS),
 (169,Ua),
 (170,T9),
 (172,T8),
 (177,Ry)]
def lZ:∀t i,(t,i)∈afd->TIok ZF t i:=bK (Ed (z:=lR) ⟨lb,ij⟩ Ch) Ch (by kernel_rfl)
def c_holds:Cd:=⟨127,[.one (.int .i8),.one (.int .i8),.one (.int .u64),.one (.int .u64)],[.one .bool,.one (.int .i64)],rdZ fun cc=>rdZ fun l=>rdZ fun x=>rdZ fun y _=>[.z (Ay ((DQ cc l&&lh cc l x y))),.z (if DQ cc l=ZB then 0 else 2)],T0⟩
def sX_holds(cc:Int)(Cq:Aj .i8 cc=ZB)(l:Int)(hl:Aj .i8 l=ZB)(x:Int)(hx:Aj .u64 x=ZB)(y:Int)(hy:Aj .u64 y=ZB):(∀w,Calls ZF 127 #[.int .i8 cc,.int .i8 l,.int .u64 x,.int .u64 y] w fun e w'=>e=.returned (.tuple #[.bool ((DQ cc l&&lh cc l x y)),.int .i64 (if DQ cc l=ZB then 0 else 2)])/\Ext w w')/\iK (.tuple #[.bool ((DQ cc l&&lh cc l x y)),.int .i64 (if DQ cc l=ZB then 0 else 2)])=ZB:=by
 have gx:=dr hx;have gy:=dr hy;cases hk:DQ cc l
 .refine⟨fun w=>(aiE cc l x y w ?_).mono ?_,by simp[iK,gP,gY];decide⟩
  .unfold DQ at hk;rw[Bool.and_eq_false_iff,Bool.and_eq_false_iff]at hk;rcases hk with(hk|hk)|hk
   .have:=Af hk;simp;omega
   .have:=Af hk;simp;omega
   .rw[hk];simp
  .rintro e w' ⟨rfl,rfl⟩;exact⟨by simp,Ext.refl _⟩
 .unfold DQ at hk;simp only[ne,ax]at hk;refine⟨fun w=>(aiF cc l x y w gx.1 gx.2 gy.1 gy.2 hk.1.1 hk.1.2 hk.2).mono ?_,by simp[iK,gP,gY];decide⟩;rintro e w' ⟨rfl,rfl⟩;exact⟨by simp,Ext.refl _⟩
def k_holds:c_holds.Ok ZF:=fun hF hP=>by
 refine SmOk.pure (s:=c_holds.m _) hF rfl rfl fun xs vals w h=> ?_;obtain⟨_,_,_,rfl,⟨x0,rfl,rfl,Dr⟩,h⟩:=h;obtain⟨_,_,_,rfl,⟨x1,rfl,rfl,DY⟩,h⟩:=h;obtain⟨_,_,_,rfl,⟨x2,rfl,rfl,HT⟩,h⟩:=h;obtain⟨_,_,_,rfl,⟨x3,rfl,rfl,Hc⟩,h⟩:=h;obtain⟨rfl,rfl⟩:=h;have q:=sX_holds x0 Dr x1 DY x2 HT x3 Hc;refine⟨_,.inr ⟨ez func127 (by kernel_rfl) (by kernel_rfl) _ w,q.1 w⟩,?_,fun ρ v0 nid j he=> ?_⟩
 .have q2:=q.2;simp[iK,gP,gY]at q2;simp[c_holds,Cd.m,tp,rdZ,rdB,rdL,ZO,YW,Sh.cks,YO,YN,ZM,b2i_one,ib,q2]
 .simp only[c_holds,Cd.m,tp,rdZ,rdB,rdL,ZO,YW,Sh.cks,YO,YN,ZM,b2i_one,eqs,dI,dB,cH,lu,be,Nat.add_zero,ZE,and_true]at he;simp[c_holds,Cd.m,tp,rdZ,rdB,rdL,ZO,YW,Sh.cks,YO,YN,ZM,b2i_one,gN,bM,aL,V.den,C.den,Ad,Bt,ce,E.I,E.B,he]
def c_mnum:Cd:=⟨124,[.one (.int .i64)],[.one (.int .u64)],rdZ fun n _=>[.z (ZG .u64 n)],T0⟩
def agM:Tr:=
(.u (.cons (.F .u64 (.w 0)) .nil))
def anM:c_mnum.Ok ZF:=
 A4 agM [.int .i64] lZ AR func124<|fun n hn hp ρ g=>by
 simp only[AT,ZE]at g;simp only[agM,c_mnum,Am,YI,ZE,-eq_self,bV,ai,du,g]
 .rfl
def zp:List Dt->Prop
 |[.z x0,.z x1,.z x2,.z x3,.z x4,.z x5,.z x6,.z x7,.z x8,.z x9,.z Iq,.z Jq,.z x12,.z x13,.z x14,.z x15,.z x16,.z x17,.z x18,.z x19]=>let f (m:Mach) (x:Ins):Prop:=x.br=ZB->0<=x.s/\x.s<=10;f ⟨x0,x1,x2,x3,x4,x5,x6,x7,x8,x9,Iq⟩ ⟨Jq,x12,x13,x14,(x15==1),x16,x17,x18,x19⟩
 |_=>False
def c_msec:Cd:=⟨122,[.ptr kMach,.agg kIns],[.one (.int .u64)],rd_Mach fun m=>rd_Ins fun x _=>[.z (EH m x)],zp⟩
def agL:Tr:=
(.br (.s 15)
(.br (.eq (.w 17) (.p 0))
(.u (.cons (.w 0) .nil))
(.br (.eq (.w 17) (.p 1))
(.u (.cons (.w 1) .nil))
(.br (.eq (.w 17) (.p 2))
(.u (.cons (.w 2) .nil))
(.br (.eq (.w 17) (.p 3))
(.u (.cons (.w 3) .nil))
(.br (.eq (.w 17) (.p 4))
(.u (.cons (.w 4) .nil))
(.br (.eq (.w 17) (.p 5))
(.u (.cons (.w 5) .nil))
(.br (.eq (.w 17) (.p 6))
(.u (.cons (.w 6) .nil))
(.br (.eq (.w 17) (.p 7))
(.u (.cons (.w 7) .nil))
(.br (.eq (.w 17) (.p 8))
(.u (.cons (.w 8) .nil))
(.br (.eq (.w 17) (.p 9))
(.u (.cons (.w 9) .nil))
(.br (.eq (.w 17) (.p 10))
(.u (.cons (.w 10) .nil))
.panic)))))))))))
(.call 0 [.int .u64] (.cons (.w 19) .nil) 20
(.u (.cons (.w 20) .nil))))
def at7:c_msec.Ok ZF:=
 A4 agL (v_Mach (v_Ins [])) lZ (Aq anM AR) func122<|al8 fun m hm=>iY fun x hx hp ρ g=>by
 simp only[c_msec,zp,xi,eD,b2i_one,bV,ai,du]at hp;simp only[xi,eD,AT,ZE]at g;simp only[agL,c_mnum,c_msec,xi,eD,Am,YI,ZE,-eq_self,bV,ai,du,g];apply aI<;>intro c0;apply aI<;>intro c1
 ·(unfold EH;rw[c0,Bs c1];rfl)
 apply aI<;>intro c2
 ·(unfold EH;rw[c0,Bs c2];rfl)
 apply aI<;>intro c3
 ·(unfold EH;rw[c0,Bs c3];rfl)
 apply aI<;>intro c4
 ·(unfold EH;rw[c0,Bs c4];rfl)
 apply aI<;>intro c5
 ·(unfold EH;rw[c0,Bs c5];rfl)
 apply aI<;>intro c6
 ·(unfold EH;rw[c0,Bs c6];rfl)
 apply aI<;>intro c7
 ·(unfold EH;rw[c0,Bs c7];rfl)
 apply aI<;>intro c8
 ·(unfold EH;rw[c0,Bs c8];rfl)
 apply aI<;>intro c9
 ·(unfold EH;rw[c0,Bs c9];rfl)
 apply aI<;>intro CA
 ·(unfold EH;rw[c0,Bs CA];rfl)
 apply aI<;>intro DD
 ·(unfold EH;rw[c0,Bs DD];rfl)
 ·(have q:=hp c0;have n0:=BM c1;have n1:=BM c2;have n2:=BM c3;have n3:=BM c4;have n4:=BM c5;have n5:=BM c6;have n6:=BM c7;have n7:=BM c8;have n8:=BM c9;have n9:=BM CA;have n10:=BM DD;omega)
 refine anz ?_
 ·(unfold EH;rw[c0];rfl)
def qp:List Dt->Prop
 |[.z x0,.l x1,.z x2,.z x3,.l x4,.z x5,.z x6,.l x7,.z x8,.z x9,.l Iq,.z Jq]=>let f (m:Mem):Prop:=m.fit;f ⟨x0,x1,(x2==1),x3,x4,(x5==1),x6,x7,(x8==1),x9,Iq,(Jq==1)⟩
 |_=>False
def c_mctx:Cd:=⟨28,[.ptr kMem],[.one (.sl [ZA .u8] 5)],rd_Mem fun m _=>[.l m.l1],qp⟩
def zl:Tr:=
(.br (.lt (.len (.g 4)) (.p 1073741824))
(.u (.N (.g 4) .nil))
.panic)
def aqg:cG afd (FH 0 []) [(58,f58,[],[]),(84,f84,[],[])] [] [] 200 f28 c_mctx.a c_mctx.r (tp c_mctx.r) (v_Mem []) zl:=FJ (by kernel_rfl)
def at9:c_mctx.Ok ZF:=
 GJ (hl:=.inr (.inl ⟨(fun xs (h:qp xs) L hL=>by unfold qp at h;split at h<;>first|exact h.elim|(simp at hL;rcases hL with rfl|rfl|rfl|rfl;exact cO h.l0 Os;exact cO h.l1 Os;exact cO (Nat.le_of_eq h.l2) Os;exact cO h.l3 Os)),rfl⟩)) zl (v_Mem []) lZ AR func28 (Da func58 (Da func84 FD)) aqg<|aiZ fun m hm hp ρ g=>by
 simp only[c_mctx,qp,Oy,b2i_one,bV,ai,du]at hp;simp only[Oy,AT,ZE]at g;simp only[zl,c_mctx,Oy,Am,YI,ZE,-eq_self,bV,ai,du,g];apply aI<;>intro c0
 .rfl
 ·(have q:=Af c0;have z:=hp.l1;omega)
def qn:List Dt->Prop
 |[.z x0,.z x1,.z x2,.z x3,.z x4,.z x5,.z x6,.z x7,.z x8]=>let f (x:Ins):Prop:=AL x=ZB;f ⟨x0,x1,x2,x3,(x4==1),x5,x6,x7,x8⟩
 |_=>False
def c_mwants:Cd:=⟨92,[.agg kIns],[.one (.int .i64)],rd_Ins fun x _=>[.z (aV x)],qn⟩
def Vl:Tr:=(.br (.lt (.w 6) (.p 0))
.panic
(.u (.cons (.f .or .i64 (.f .shl .i64 (.p 1) (.w 5)) (.f .shl .i64 (.p 1) (.w 6))) .nil)))
def Sr:Tr:=(.br (.lt (.w 5) (.p 0))
.panic
(.br (.s 4)
 Vl
(.u (.cons (.f .shl .i64 (.p 1) (.w 5)) .nil))))
def wR:Tr:=
(.br (.eq (.w 0) (.p 0))
(.br (.eq (.w 0) (.p 3))
 Sr
(.br (.eq (.w 1) (.p 11))
(.br (.s 4)
(.br (.lt (.w 6) (.p 0))
.panic
(.u (.cons (.f .or .i64 (.p 0) (.f .shl .i64 (.p 1) (.w 6))) .nil)))
(.u (.cons (.p 0) .nil)))
 Sr))
(.br (.eq (.w 0) (.p 3))
 Sr
(.br (.eq (.w 0) (.p 2))
(.br (.lt (.w 5) (.p 0))
.panic
 Vl)
(.br (.eq (.w 0) (.p 1))
(.br (.lt (.w 6) (.p 0))
.panic
(.u (.cons (.f .shl .i64 (.p 1) (.w 6)) .nil)))
(.br (.eq (.w 0) (.p 5))
(.call 0 [.int .i64] (.cons (.w 8) .nil) 9
(.br (.lt (.f .add .i64 (.w 9) (.p 1)) (.p 0))
.panic
(.u (.cons (.f .sub .i64 (.f .shl .i64 (.p 1) (.f .add .i64 (.w 9) (.p 1))) (.p 2)) .nil))))
(.br (.eq (.w 0) (.p 6))
(.u (.cons (.p 1) .nil))
(.u (.cons (.p 0) .nil))))))))
def alR:c_mwants.Ok ZF:=
 A4 wR (v_Ins []) lZ (Aq zT AR) func92<|iY fun x hx hp ρ g=>by
 simp only[c_mwants,qn,eD,b2i_one,bV,ai,du]at hp;simp only[eD,AT,ZE]at g;simp only[wR,Sr,Vl,c_iargs,c_mwants,eD,Am,YI,ZE,-eq_self,bV,ai,du,g];apply aI<;>intro c0;apply aI<;>intro c1;apply aI<;>intro c2
 .exact Xr
 apply aI<;>intro c3;apply aI<;>intro c4
 .exact Xr
 .exact XB
 .exact XB
 apply aI<;>intro c5;apply aI<;>intro c6;apply aI<;>intro c7
 .exact Xr
 .exact XB
 .exact XB
 apply aI<;>intro c8
 .exact Xr
 apply aI<;>intro c9;apply aI<;>intro CA
 .exact Xr
 .exact XB
 .exact XB
 apply aI<;>intro DD;apply aI<;>intro Cp
 .exact Xr
 apply aI<;>intro C9;apply aI<;>intro DE
 .exact Xr
 .exact XB
 .exact XB
 apply aI<;>intro DI;apply aI<;>intro Ew
 .exact Xr
 apply aI<;>intro Ec
 .exact Xr
 .exact XB
 apply aI<;>intro DJ;apply aI<;>intro D7
 .exact Xr
 .exact XB
 apply aI<;>intro FN;refine anz ?_;apply aI<;>intro GU
 .exact Xr
 .exact XB
 apply aI<;>intro It
 .exact XB
 .exact XB
def Out.eta(a:Out):(⟨a.kind,a.r0,a.ctx,a.tr,a.left⟩:Out)=a:=rfl
def rd_Out(k:Out->List Dt->List Dt):List Dt->List Dt
 |.z z0::.z z1::.l z2::.l z3::.z z4::r=>k ⟨z0,z1,z2,z3,z4⟩ r
 |_=>[]
def Out.ok(a:Out):Prop:=Aj .i8 a.kind=ZB/\Aj .u64 a.r0=ZB/\RowsIn [ZA .u8] a.ctx/\RowsIn (kN 8 11111212) a.tr/\Aj .i64 a.left=ZB
def kOut:List CK:=[.int .i8,.int .u64,.sl [ZA .u8] 5,.sl (kN 8 11111212) 177,.int .i64]
def v_Out(t:List VK):List VK:=.int .i8::.int .u64::.list [ZA .u8]::.list (kN 8 11111212)::.int .i64::t
def d_Out(a:Out)(t:List Dt):List Dt:=.z a.kind::.z a.r0::.l a.ctx::.l a.tr::.z a.left::t
def aiY{l:List VK}{p:List Dt->Prop}(h:∀a:Out,Out.ok a->ba l fun r=>p (d_Out a r)):ba (v_Out l) p:=fun x0 Dr x1 DY x2 HT x3 Hc x4 K0=>h ⟨x0,x1,x2,x3,x4⟩ ⟨Dr,DY,HT,Hc,K0⟩
def Ox:=aI @v_Out.eq_1 (aI @d_Out.eq_1 (aI @rd_Out.eq_1 (@kOut.eq_1)))
abbrev MF(ρ:Env)(L:LL)(left r0 r1 r2 r3 r4 r5 r6 r7 r8 r9 r10 st pc:Int)(a1 t1 c1 f1:LL):Prop:=ρ.l 1=L/\ρ.i 7=left/\ρ.i 8=r0/\ρ.i 9=r1/\ρ.i 10=r2/\ρ.i 11=r3/\ρ.i 12=r4/\ρ.i 13=r5/\ρ.i 14=r6/\ρ.i 15=r7/\ρ.i 16=r8/\ρ.i 17=r9/\ρ.i 18=r10/\ρ.i 19=st/\ρ.i 84=pc/\ρ.l 86=a1/\ρ.l 87=t1/\ρ.l 88=c1/\ρ.l 89=f1
def atz(ρ:Env)(h:ρ.l 1=L):∃left r0 r1 r2 r3 r4 r5 r6 r7 r8 r9 r10 st pc a1 t1 c1 f1,MF ρ L left r0 r1 r2 r3 r4 r5 r6 r7 r8 r9 r10 st pc a1 t1 c1 f1:=⟨_,_,_,_,_,_,_,_,_,_,_,_,_,_,_,_,_,_,h,rfl,rfl,rfl,rfl,rfl,rfl,rfl,rfl,rfl,rfl,rfl,rfl,rfl,rfl,rfl,rfl,rfl,rfl⟩
def MF.ag{v:Nat}{σ:Env}{r0 r1 r2 r3 r4 r5 r6 r7 r8 r9 r10 st pc:Int}{a1 t1 c1 f1:LL}(h:MF ρ L left r0 r1 r2 r3 r4 r5 r6 r7 r8 r9 r10 st pc a1 t1 c1 f1)(ha:Ag v ρ σ)(hv:90<=v:=by decide):MF σ L left r0 r1 r2 r3 r4 r5 r6 r7 r8 r9 r10 st pc a1 t1 c1 f1:=by obtain⟨h0,h1,h2,h3,h4,h5,h6,h7,h8,h9,HU,Gr,HB,h13,h14,h15,OR,h17,h18⟩:=h;exact⟨kL ha h0 Fn,kI ha h1 Fn,kI ha h2 Fn,kI ha h3 Fn,kI ha h4 Fn,kI ha h5 Fn,kI ha h6 Fn,kI ha h7 Fn,kI ha h8 Fn,kI ha h9 Fn,kI ha HU Fn,kI ha Gr Fn,kI ha HB Fn,kI ha h13 Fn,kI ha h14 Fn,kL ha h15 Fn,kL ha OR Fn,kL ha h17 Fn,kL ha h18 Fn⟩
def fi{p:Prop}(k:q2)(h:p->q=q2:=by intro e;(try simp only[e,bV,ai,du,-eq_self]);rfl):p->q:=fun e=>(h e).symm▸k
def afc:List (Nat×TI):=[(3,C1),
 (4,EM),
 (5,KB),
 (22,vT),
 (24,vS),
 (25,Pm),
 (26,SG),
 (33,OJ),
 (39,hZ),
 (41,rK),
 (42,⟨ZC,1,[.nf],[],ZD,ZD,ZC,ZC,ZD,8,ZB,ZD,ZC,0⟩),
 (43,hJ),
 (44,SF),
 (46,VF),
 (90,⟨ZC,1,[.np],[],ZD,ZD,ZC,ZC,ZD,8,ZC,ZD,ZC,1⟩),
 (96,⟨ZC,1,[.np],[],ZD,ZD,ZC,ZC,ZD,8,ZC,ZD,ZC,1⟩),
 (97,VE),
 (98,asM),
 (99,asL),
 (101,amT),
 (103,amS),
 (169,Ua),
 (170,T9),
 (172,T8),
 (174,⟨ZB,7,[.nf,.nf,.nf,.nf,.nf,.nf,.nf],[],ZA (7,42),ZD,ZC,ZC,ZD,56,ZC,ZD,ZC,0⟩),
 (177,Ry)]
def ae5:∀t i,(t,i)∈afc->TIok ZF t i:=bK (Ed (z:=lR) ⟨lb,ij⟩ Ch) Ch (by kernel_rfl)
def qo:List Dt->Prop
 |[.z x0,.l x1,.l x2,.l x3,.z x4]=>let f (p:Prog) (cx:LL) (an:LL) (fu:Int):Prop:=(p.l.length<=maxLen/\cx.length<=maxLen)/\an.length<=maxLen;f ⟨x0,x1⟩ x2 x3 x4
 |_=>False
def c_mrun:Cd:=⟨10,[.agg kProg,.one (.sl [ZA .u8] 5),.one (.sl [ZA .u64] 43),.one (.int .i64)],[.agg kOut,.one (.int .i64)],rd_Prog fun p=>rdL fun cx=>rdL fun an=>rdZ fun fu _=>d_Out ((Cm p cx an fu).1) [.z ((Cm p cx an fu).2)],qo⟩
def Pe:E:=(.F .u64 (.F .i64 (.get (.g 1) (.w 84) 3)))
def Pf:E:=(.cons (.p 0) (.N (.g 88) (.N (.g 89) .nil)))
def tF:E:=(.f .add .u64 (.nth (.get (.g 1) (.w 84) 5) (.vs 8 11 .nil)) (.w 91))
def U8:E:=(.j (.tt ZB) (.cons (.p 4194304) (.N .ln (.j (.tt ZB) .nil))))
def U9:E:=(.cons (.nth (.get (.g 1) (.w 84) 5) (.vs 8 11 .nil)) (.cons (.w 91) .nil))
def Sk:E:=(.N (.g 87) (.cons (.f .sub .i64 (.w 7) (.p 1)) (.cons (.p 0) .nil)))
def Sl:E:=(.N (.g 86) (.N (.g 87) (.N (.g 88) (.N (.g 89) .nil))))
def Va:E:=(.N (.g 91) Sk)
def Vb:E:=(.f .sub .u64 tF (.p 4194304))
def tG:E:=(.f .sub .u64 tF (.p 3145728))
def tH:E:=(.f .sub .u64 tF (.p 2097152))
def On:E:=(.f .sub .u64 tF (.p 1048576))
def Sn:Tr:=(.u (.cons (.p 0) (.cons (.p 0) (.N .ln (.N .ln (.cons (.p 0) (.cons (.p 2) .nil)))))))
def Vc:E:=(.F .u8 (.f .shr .u64 (.nth (.get (.g 1) (.w 84) 6) (.vs 8 11 .nil)) (.f .mul .i64 (.p 8) (.w 93))))
def Vd:E:=(.cons (.p 0) Va)
def So:E:=(.f .add .i64 tG (.w 93))
def Sq:E:=(.f .add .i64 tH (.w 93))
def Ve:E:=(.cons (.f .add .i64 (.w 84) (.p 1)) (.cons (.f .add .i64 (.w 84) (.p 1)) Sl))
def Oo:E:=(.f .add .i64 (.F .i64 tG) (.F .i64 (.get (.g 1) (.w 84) 3)))
def OD:E:=(.f .add .i64 (.F .i64 tH) (.F .i64 (.get (.g 1) (.w 84) 3)))
def Vf:E:=(.f .add .i64 (.F .i64 On) (.F .i64 (.get (.g 1) (.w 84) 3)))
def OE:E:=(.cons (.p 1048576) (.N (.lrep (.p 0) (.cons (.p 0) .nil)) (.j (.tt ZC) (.cons (.p 2097152) (.N (.g 88) (.j (.tt ZB) (.cons (.p 3145728) (.N (.g 89) U8))))))))
def yn:E:=(.ldrop (.ltake (.lq (.lq (.lq (.lq (.lq (.lq (.lq (.lq (.lq (.lq (.lq .ln (.cons (.w 8) .nil)) (.cons (.w 9) .nil)) (.cons (.w 10) .nil)) (.cons (.w 11) .nil)) (.cons (.w 12) .nil)) (.cons (.w 13) .nil)) (.cons (.w 14) .nil)) (.cons (.w 15) .nil)) (.cons (.w 16) .nil)) (.cons (.w 17) .nil)) (.cons (.w 18) .nil)) (.f .add .i64 (.p 1) (.w 91))) (.p 1))
def Vg:E:=(.len yn)
def Vh:Tr:=(.br (.lt (.w 92) (.p 0))
(.br (.lt (.f .mul .i64 (.p 8) (.w 92)) (.p 0))
.panic
.panic)
(.br (.lt (.len (.g 94)) (.p 1073741824))
(.br (.eq (.len (.g 94)) (.p 64))
(.call 2 [.sl [ZA .u8] 5] (.cons (.p 1048576) (.N (.lrep (.p 0) (.cons (.p 0) .nil)) (.j (.tt ZC) (.cons (.p 2097152) (.N (.g 93) (.j (.tt ZB) (.cons (.p 3145728) (.N (.g 94) U8)))))))) 95
(.u (.cons (.p 3) (.cons (.p 0) (.N (.g 95) Sk)))))
(.stuck 225))
.panic))
def Vi:Tr:=(.next 0 (.cons (.f .sub .i64 (.w 7) (.p 1)) (.cons (.ite (.eq (.get (.g 1) (.w 84) 5) (.p 0)) (.w 92) (.w 8)) (.cons (.ite (.eq (.get (.g 1) (.w 84) 5) (.p 1)) (.w 92) (.w 9)) (.cons (.ite (.eq (.get (.g 1) (.w 84) 5) (.p 2)) (.w 92) (.w 10)) (.cons (.ite (.eq (.get (.g 1) (.w 84) 5) (.p 3)) (.w 92) (.w 11)) (.cons (.ite (.eq (.get (.g 1) (.w 84) 5) (.p 4)) (.w 92) (.w 12)) (.cons (.ite (.eq (.get (.g 1) (.w 84) 5) (.p 5)) (.w 92) (.w 13)) (.cons (.ite (.eq (.get (.g 1) (.w 84) 5) (.p 6)) (.w 92) (.w 14)) (.cons (.ite (.eq (.get (.g 1) (.w 84) 5) (.p 7)) (.w 92) (.w 15)) (.cons (.ite (.eq (.get (.g 1) (.w 84) 5) (.p 8)) (.w 92) (.w 16)) (.cons (.ite (.eq (.get (.g 1) (.w 84) 5) (.p 9)) (.w 92) (.w 17)) (.cons (.ite (.eq (.get (.g 1) (.w 84) 5) (.p 10)) (.w 92) (.w 18)) (.cons (.f .or .i64 (.w 19) (.f .shl .i64 (.p 1) (.get (.g 1) (.w 84) 5))) (.vs 20 64 Ve)))))))))))))))
def Vj:Tr:=(.br (.lt (.len (.g 95)) (.p 1073741824))
(.br (.eq (.len (.g 95)) (.p 64))
(.next 0 (.cons (.f .sub .i64 (.w 7) (.p 1)) (.vs 8 12 (.cons (.get (.g 95) (.p 0) 0) (.cons (.get (.g 95) (.p 1) 0) (.cons (.get (.g 95) (.p 2) 0) (.cons (.get (.g 95) (.p 3) 0) (.cons (.get (.g 95) (.p 4) 0) (.cons (.get (.g 95) (.p 5) 0) (.cons (.get (.g 95) (.p 6) 0) (.cons (.get (.g 95) (.p 7) 0) (.cons (.get (.g 95) (.p 8) 0) (.cons (.get (.g 95) (.p 9) 0) (.cons (.get (.g 95) (.p 10) 0) (.cons (.get (.g 95) (.p 11) 0) (.cons (.get (.g 95) (.p 12) 0) (.cons (.get (.g 95) (.p 13) 0) (.cons (.get (.g 95) (.p 14) 0) (.cons (.get (.g 95) (.p 15) 0) (.cons (.get (.g 95) (.p 16) 0) (.cons (.get (.g 95) (.p 17) 0) (.cons (.get (.g 95) (.p 18) 0) (.cons (.get (.g 95) (.p 19) 0) (.cons (.get (.g 95) (.p 20) 0) (.cons (.get (.g 95) (.p 21) 0) (.cons (.get (.g 95) (.p 22) 0) (.cons (.get (.g 95) (.p 23) 0) (.cons (.get (.g 95) (.p 24) 0) (.cons (.get (.g 95) (.p 25) 0) (.cons (.get (.g 95) (.p 26) 0) (.cons (.get (.g 95) (.p 27) 0) (.cons (.get (.g 95) (.p 28) 0) (.cons (.get (.g 95) (.p 29) 0) (.cons (.get (.g 95) (.p 30) 0) (.cons (.get (.g 95) (.p 31) 0) (.cons (.get (.g 95) (.p 32) 0) (.cons (.get (.g 95) (.p 33) 0) (.cons (.get (.g 95) (.p 34) 0) (.cons (.get (.g 95) (.p 35) 0) (.cons (.get (.g 95) (.p 36) 0) (.cons (.get (.g 95) (.p 37) 0) (.cons (.get (.g 95) (.p 38) 0) (.cons (.get (.g 95) (.p 39) 0) (.cons (.get (.g 95) (.p 40) 0) (.cons (.get (.g 95) (.p 41) 0) (.cons (.get (.g 95) (.p 42) 0) (.cons (.get (.g 95) (.p 43) 0) (.cons (.get (.g 95) (.p 44) 0) (.cons (.get (.g 95) (.p 45) 0) (.cons (.get (.g 95) (.p 46) 0) (.cons (.get (.g 95) (.p 47) 0) (.cons (.get (.g 95) (.p 48) 0) (.cons (.get (.g 95) (.p 49) 0) (.cons (.get (.g 95) (.p 50) 0) (.cons (.get (.g 95) (.p 51) 0) (.cons (.get (.g 95) (.p 52) 0) (.cons (.get (.g 95) (.p 53) 0) (.cons (.get (.g 95) (.p 54) 0) (.cons (.get (.g 95) (.p 55) 0) (.cons (.get (.g 95) (.p 56) 0) (.cons (.get (.g 95) (.p 57) 0) (.cons (.get (.g 95) (.p 58) 0) (.cons (.get (.g 95) (.p 59) 0) (.cons (.get (.g 95) (.p 60) 0) (.cons (.get (.g 95) (.p 61) 0) (.cons (.get (.g 95) (.p 62) 0) (.cons (.get (.g 95) (.p 63) 0) (.cons (.f .add .i64 (.w 84) (.p 1)) (.cons (.f .add .i64 (.w 84) (.p 1)) (.N (.g 86) (.N (.g 87) (.N (.g 94) (.N (.g 95) .nil)))))))))))))))))))))))))))))))))))))))))))))))))))))))))))))))))))))))))
(.stuck 225))
.panic)
def zk:Tr:=
(.call 3 [.int .i64,.int .i64] (.cons (.w 0) (.N (.g 1) .nil)) 5
(.br (.eq (.w 6) (.p 0))
(.br (.eq (.len (.g 2)) (.w 0))
(.br (.lt (.w 4) (.p 0))
 Sn
(.br (.lt (.p 10000) (.w 4))
 Sn
(.br (.lt (.p 256) (.len (.g 2)))
(.u (.cons (.p 0) (.cons (.p 0) (.N .ln (.N .ln (.cons (.p 0) (.cons (.p 3) .nil)))))))
(.br (.lt (.len (.g 2)) (.p 1073741824))
(.loop 0 7 [.int .i64,.int .u64,.int .u64,.int .u64,.int .u64,.int .u64,.int .u64,.int .u64,.int .u64,.int .u64,.int .u64,.int .u64,.int .i64,.int .u8,.int .u8,.int .u8,.int .u8,.int .u8,.int .u8,.int .u8,.int .u8,.int .u8,.int .u8,.int .u8,.int .u8,.int .u8,.int .u8,.int .u8,.int .u8,.int .u8,.int .u8,.int .u8,.int .u8,.int .u8,.int .u8,.int .u8,.int .u8,.int .u8,.int .u8,.int .u8,.int .u8,.int .u8,.int .u8,.int .u8,.int .u8,.int .u8,.int .u8,.int .u8,.int .u8,.int .u8,.int .u8,.int .u8,.int .u8,.int .u8,.int .u8,.int .u8,.int .u8,.int .u8,.int .u8,.int .u8,.int .u8,.int .u8,.int .u8,.int .u8,.int .u8,.int .u8,.int .u8,.int .u8,.int .u8,.int .u8,.int .u8,.int .u8,.int .u8,.int .u8,.int .u8,.int .u8,.int .u8,.int .i64,.int .i64,.list [ZA .u64],.list (kN 8 11111212),.list [ZA .u8],.list [ZA .u8]] (.cons (.w 4) (.zs [0,2097152,0,0,0,0,0,0,0,0,3145792,1026,0,0,0,0,0,0,0,0,0,0,0,0,0,0,0,0,0,0,0,0,0,0,0,0,0,0,0,0,0,0,0,0,0,0,0,0,0,0,0,0,0,0,0,0,0,0,0,0,0,0,0,0,0,0,0,0,0,0,0,0,0,0,0,0,0,0] (.N (.g 3) (.N .ln (.N (.g 2) (.N (.lrep (.p 64) (.cons (.p 0) .nil)) .nil))))))
(.br (.lt (.p 0) (.w 7))
(.br (.lt (.w 84) (.p 0))
.panic
(.br (.lt (.w 84) (.len (.g 1)))
(.call 9 [.int .i64] (.ins (.g 1) (.w 84) .nil) 90
(.br (.eq (.f .andNot .i64 (.w 90) (.w 19)) (.p 0))
(.br (.eq (.get (.g 1) (.w 84) 0) (.p 0))
(.br (.lt (.get (.g 1) (.w 84) 5) (.p 0))
.panic
(.br (.lt (.get (.g 1) (.w 84) 5) (.p 11))
(.call 1 [.int .u64] (.vs 8 11 (.ins (.g 1) (.w 84) .nil)) 91
(.call 6 [.int .u64,.int .i64] (.cons (.get (.g 1) (.w 84) 1) (.cons (.get (.g 1) (.w 84) 2) U9)) 92
 Vi))
.panic))
(.br (.eq (.get (.g 1) (.w 84) 0) (.p 1))
(.br (.lt (.get (.g 1) (.w 84) 6) (.p 0))
.panic
(.br (.lt (.get (.g 1) (.w 84) 6) (.p 11))
(.call 0 [.int .u64] (.cons (.get (.g 1) (.w 84) 7) .nil) 91
(.call 8 [.int .u64,.int .i64] (.cons (.p 1048576) (.N (.lrep (.p 0) (.cons (.p 0) .nil)) (.j (.tt ZC) (.cons (.p 2097152) (.N (.g 88) (.j (.tt ZB) (.cons (.p 3145728) (.N (.g 89) (.j (.tt ZB) (.cons (.p 4194304) (.N .ln (.j (.tt ZB) (.cons (.f .add .u64 (.nth (.get (.g 1) (.w 84) 6) (.vs 8 11 .nil)) (.w 91)) (.cons (.F .i64 (.get (.g 1) (.w 84) 3)) .nil)))))))))))))) 92
(.br (.eq (.w 93) (.p 0))
(.br (.lt (.get (.g 1) (.w 84) 5) (.p 0))
.panic
(.br (.lt (.get (.g 1) (.w 84) 5) (.p 11))
 Vi
.panic))
(.call 2 [.sl [ZA .u8] 5] OE 94
(.u (.cons (.p 3) (.cons (.p 0) (.N (.g 94) Sk))))))))
.panic))
(.br (.eq (.get (.g 1) (.w 84) 0) (.p 2))
(.br (.lt (.get (.g 1) (.w 84) 5) (.p 0))
.panic
(.br (.lt (.get (.g 1) (.w 84) 5) (.p 11))
(.call 0 [.int .u64] (.cons (.get (.g 1) (.w 84) 7) .nil) 91
(.br (.lt (.get (.g 1) (.w 84) 6) (.p 0))
.panic
(.br (.lt (.get (.g 1) (.w 84) 6) (.p 11))
(.cut 1 92 []
(.br (.eq (.F .i64 (.get (.g 1) (.w 84) 3)) (.p 1))
(.next 1 .nil)
(.br (.eq (.F .i64 (.get (.g 1) (.w 84) 3)) (.p 2))
(.next 1 .nil)
(.br (.eq (.F .i64 (.get (.g 1) (.w 84) 3)) (.p 4))
(.next 1 .nil)
(.br (.eq (.F .i64 (.get (.g 1) (.w 84) 3)) (.p 8))
(.next 1 .nil)
(.loop 2 92 [.int .i64,.list [ZA .u8],.list [ZA .u8]] Pf
 Vh)))))
(.cut 2 92 []
(.cut 3 92 [.bool]
(.br (.lt tF (.p 1048576))
(.next 3 (.j (.tt ZB) .nil))
(.br (.lt (.p 0) On)
(.next 3 (.j (.tt ZB) .nil))
(.next 3 (.j (.lt (.f .sub .u64 (.p 0) On) Pe) .nil))))
(.br (.s 92)
(.next 2 .nil)
(.br (.lt On (.p 0))
.panic
(.br (.lt Vf On)
.panic
(.br (.lt (.p 0) Vf)
.panic
(.next 2 .nil))))))
(.cut 3 92 []
(.cut 4 92 [.bool]
(.br (.lt tF (.p 2097152))
(.next 4 (.j (.tt ZB) .nil))
(.br (.lt (.F .u64 (.len (.g 88))) tH)
(.next 4 (.j (.tt ZB) .nil))
(.next 4 (.j (.lt (.f .sub .u64 (.F .u64 (.len (.g 88))) tH) Pe) .nil))))
(.br (.s 92)
(.next 3 .nil)
(.br (.lt tH (.p 0))
.panic
(.br (.lt OD tH)
.panic
(.br (.lt (.len (.g 88)) OD)
.panic
(.loop 5 93 [.int .i64,.list [ZA .u8],.list [ZA .u8]] Pf
(.br (.lt (.w 93) (.len (.ldrop (.ltake (.g 88) OD) tH)))
(.br (.lt (.f .mul .i64 (.p 8) (.w 93)) (.p 0))
.panic
(.br (.lt (.len (.g 94)) OD)
(.stuck 185)
(.br (.lt (.w 93) (.p 0))
.panic
(.br (.lt (.w 93) (.len (.ldrop (.ltake (.g 94) OD) tH)))
(.br (.lt Sq (.p 0))
(.stuck 58)
(.br (.lt Sq (.len (.g 94)))
(.next 5 (.cons (.f .add .i64 (.w 93) (.p 1)) (.N (.lset (.g 94) Sq 0 Vc) (.N (.g 95) .nil))))
(.stuck 58)))
.panic))))
 Vj)))))))
(.cut 4 92 []
(.cut 5 92 [.bool]
(.br (.lt tF (.p 3145728))
(.next 5 (.j (.tt ZB) .nil))
(.br (.lt (.F .u64 (.len (.g 89))) tG)
(.next 5 (.j (.tt ZB) .nil))
(.next 5 (.j (.lt (.f .sub .u64 (.F .u64 (.len (.g 89))) tG) Pe) .nil))))
(.br (.s 92)
(.next 4 .nil)
(.br (.lt tG (.p 0))
.panic
(.br (.lt Oo tG)
.panic
(.br (.lt (.len (.g 89)) Oo)
.panic
(.loop 6 93 [.int .i64,.list [ZA .u8],.list [ZA .u8]] Pf
(.br (.lt (.w 93) (.len (.ldrop (.ltake (.g 89) Oo) tG)))
(.br (.lt (.f .mul .i64 (.p 8) (.w 93)) (.p 0))
.panic
(.br (.lt (.len (.g 95)) Oo)
(.stuck 185)
(.br (.lt (.w 93) (.p 0))
.panic
(.br (.lt (.w 93) (.len (.ldrop (.ltake (.g 95) Oo) tG)))
(.br (.lt So (.p 0))
(.stuck 58)
(.br (.lt So (.len (.g 95)))
(.next 6 (.cons (.f .add .i64 (.w 93) (.p 1)) (.N (.g 94) (.N (.lset (.g 95) So 0 Vc) .nil))))
(.stuck 58)))
.panic))))
 Vj)))))))
(.cut 5 92 []
(.cut 6 92 [.bool]
(.br (.lt tF (.p 4194304))
(.next 6 (.j (.tt ZB) .nil))
(.br (.lt (.p 0) Vb)
(.next 6 (.j (.tt ZB) .nil))
(.next 6 (.j (.lt (.f .sub .u64 (.p 0) Vb) Pe) .nil))))
(.br (.s 92)
(.next 5 .nil)
(.stuck 50)))
(.loop 6 92 [.int .i64,.list [ZA .u8],.list [ZA .u8]] Pf
 Vh))))))
.panic)))
.panic))
(.br (.eq (.get (.g 1) (.w 84) 0) (.p 3))
(.br (.lt (.get (.g 1) (.w 84) 5) (.p 0))
.panic
(.br (.lt (.get (.g 1) (.w 84) 5) (.p 11))
(.call 1 [.int .u64] (.vs 8 11 (.ins (.g 1) (.w 84) .nil)) 91
(.call 7 [.bool,.int .i64] (.cons (.get (.g 1) (.w 84) 1) (.cons (.p 64) U9)) 92
(.br (.s 92)
(.call 4 [.int .i64,.bool] (.cons (.w 84) (.ins (.g 1) (.w 84) .nil)) 94
(.next 0 (.cons (.f .sub .i64 (.w 7) (.p 1)) (.vs 8 76 (.cons (.w 94) (.cons (.w 94) Sl))))))
(.next 0 (.cons (.f .sub .i64 (.w 7) (.p 1)) (.vs 8 76 Ve))))))
.panic))
(.br (.eq (.get (.g 1) (.w 84) 0) (.p 4))
(.call 4 [.int .i64,.bool] (.cons (.w 84) (.ins (.g 1) (.w 84) .nil)) 91
(.next 0 (.cons (.f .sub .i64 (.w 7) (.p 1)) (.vs 8 76 (.cons (.w 91) (.cons (.w 91) Sl))))))
(.br (.eq (.get (.g 1) (.w 84) 0) (.p 5))
(.br (.eq (.len (.g 86)) (.p 0))
(.call 2 [.sl [ZA .u8] 5] OE 91
(.u (.cons (.p 2) Vd)))
(.call 5 [.int .i64] (.cons (.get (.g 1) (.w 84) 8) .nil) 91
(.br (.lt (.f .add .i64 (.p 1) (.w 91)) (.p 1))
.panic
(.br (.lt (.p 11) (.f .add .i64 (.p 1) (.w 91)))
.panic
(.br (.lt (.p 0) (.len (.g 86)))
(.br (.lt (.p 5) Vg)
(.stuck 220)
(.br (.lt (.len (.g 87)) (.p 1073741824))
(.br (.lt (.len (.g 86)) (.p 1))
.panic
(.next 0 (.cons (.f .sub .i64 (.w 7) (.p 1)) (.cons (.get (.g 86) (.p 0) 0) (.zs [0,0,0,0,0] (.vs 14 5 (.cons (.f .andNot .i64 (.f .andNot .i64 (.f .andNot .i64 (.f .andNot .i64 (.f .andNot .i64 (.f .or .i64 (.w 19) (.p 1)) (.p 2)) (.p 4)) (.p 8)) (.p 16)) (.p 32)) (.vs 20 64 (.cons (.f .add .i64 (.w 84) (.p 1)) (.cons (.f .add .i64 (.w 84) (.p 1)) (.N (.ldrop (.g 86) (.p 1)) (.N (.lq (.g 87) (.cons (.get (.g 1) (.w 84) 8) (.cons (.get (.g 86) (.p 0) 0) (.cons (.F .i64 Vg) (.cons (.get yn (.p 0) 0) (.cons (.get yn (.p 1) 0) (.cons (.get yn (.p 2) 0) (.cons (.get yn (.p 3) 0) (.cons (.get yn (.p 4) 0) .nil))))))))) (.N (.g 88) (.N (.g 89) .nil))))))))))))))
.panic))
.panic)))))
(.br (.eq (.get (.g 1) (.w 84) 0) (.p 6))
(.call 2 [.sl [ZA .u8] 5] OE 91
(.u (.cons (.p 1) (.cons (.w 8) Va))))
.panic)))))))
(.call 2 [.sl [ZA .u8] 5] OE 91
(.u (.cons (.p 3) Vd)))))
.panic))
(.call 2 [.sl [ZA .u8] 5] OE 90
(.u (.cons (.p 0) (.cons (.p 0) (.N (.g 90) (.N (.g 87) (.cons (.w 7) (.cons (.p 0) .nil))))))))))
.panic))))
 Sn)
(.u (.cons (.p 0) (.cons (.p 0) (.N .ln (.N .ln (.cons (.p 0) (.cons (.w 6) .nil)))))))))
def aqf:cG afc (FH 0 [c_mnum,c_msec,c_mctx,c_icheck,c_itgt,c_iargs,c_bits,c_holds,c_mread,c_mwants]) [(57,f57,[(999999,[]),(999998,[])],[]),(85,f85,[(999999,[]),(999998,[])],[]),(86,f86,[(999999,[]),(999998,[])],[]),(87,f87,[(999999,[]),(999998,[])],[]),(88,f88,[(999999,[]),(999998,[])],[]),(89,f89,[(999999,[]),(999998,[])],[]),(90,f90,[(999999,[]),(999998,[])],[]),(91,f91,[(999999,[]),(999998,[])],[]),(55,f55,[(999999,[]),(999998,[])],[]),(125,f125,[(3,[.tmpI 21 .i64,.row 12,.row 13]++Eb [(11,1),(22,11)]),(999999,[]),(999998,[])],[]),(154,f154,[(999999,[]),(999998,[])],[(5,[.top 15]++Eb [(8,2),(16,17)]),(13,[.top 13]++Eb [(8,5),(14,1),(35,27)])]),(177,f177,[(999999,[]),(999998,[])],[(3,[.tmpB 43]++Eb [(15,28)])]),(126,f126,[(999999,[]),(999998,[])],[]),(58,f58,[(999999,[]),(999998,[])],[]),(84,f84,[(999999,[]),(999998,[])],[]),(26,f26,[(999999,[]),(999998,[])],[]),(54,f54,[(999999,[]),(999998,[])],[]),(27,f27,[(999999,[]),(999998,[])],[]),(56,f56,[(2,[.cI 4 4 .i64,.cels 14 3 (kN 78 223333333333333333333333333333333333333333333333333333333333333333211111111111),.celV 14 81 [ZA .u64] 43,.cT 14 82 CM 177,.row 12,.row 13]++Eb [(11,23)]),(999999,[]),(999998,[])],[])] [(999999,[]),(999998,[])] [] 200 f10 c_mrun.a c_mrun.r (tp c_mrun.r) (v_Prog [.list [ZA .u8],.list [ZA .u64],.int .i64]) zk:=FJ (by kernel_rfl)
def at8:c_mrun.Ok ZF:=
 GJ (hl:=.inr (.inl ⟨(fun xs (h:qo xs) L hL=>by unfold qo at h;split at h<;>first|exact h.elim|(simp at hL;rcases hL with rfl|rfl|rfl;exact h.1.1;exact h.1.2;exact h.2)),rfl⟩)) zk (v_Prog [.list [ZA .u8],.list [ZA .u64],.int .i64]) ae5 (Aq anM<|Aq at7<|Aq at9<|Aq vg<|Aq R5<|Aq zT<|Aq anR<|Aq k_holds<|Aq aro<|Aq alR AR) func10 (Da func57 (Da func85 (Da func86 (Da func87 (Da func88 (Da func89 (Da func90 (Da func91 (Da func55 (Da func125 (Da func154 (Da func177 (Da func126 (Da func58 (Da func84 (Da func26 (Da func54 (Da func27 (Da func56 FD))))))))))))))))))) aqf<|fQ fun p hp=>fun cx OS an han fu hfu hp ρ g=>by
 simp only[c_mrun,qo,df,Ox,b2i_one,bV,ai,du]at hp;have As:=g;simp only[df,Ox,xi,eD,Oy,AT,ZE]at g;simp only[zk,Vj,Vi,Vh,Vg,yn,OE,Vf,OD,Oo,Ve,Sq,So,Vd,Vc,Sn,On,tH,tG,Vb,Va,Sl,Sk,U9,U8,tF,Pf,Pe,c_mnum,c_msec,c_mctx,c_icheck,c_itgt,c_iargs,c_bits,c_holds,c_mread,c_mwants,c_mrun,zp,qp,ge,mj,qn,df,Ox,xi,eD,Oy,Am,YI,ZE,-eq_self,bV,ai,du,g];obtain⟨LY,Fp,k0_l2,k0_l3,k0_i4⟩:=g;refine⟨?_,?_⟩
 .exact hp.1.1
 refine fi ?_;apply aI<;>intro c0;apply aI<;>intro c1;apply aI<;>intro c2
 .have e:Cm p cx an fu=_:=uS (zF (Bs c0) (.inr (.inl (Ae c2)))) Os;rw[e]
 apply aI<;>intro c3
 .have e:Cm p cx an fu=_:=uS (zF (Bs c0) (.inr (.inr (Ae c3)))) Os;rw[e]
 apply aI<;>intro c4
 .exact ak (Ae c4) (by have:=qT (Bs c0);have:=Bs c1;omega)
 apply aI<;>intro c5;have Ai:=Bs c0;have hf:0<=fu/\fu<=10000:=by have:=Af c2;have:=Af c3;omega
 have OS:cx.length<=256:=by have:=Af c4;omega
 have hI:=bj hp.1.1 Ai;have Ab:jS p cx fu=0:=zE Ai (Bs c1) hf.1 hf.2;refine⟨fun ds=>RunAt p cx an fu (dI ds 0) (msD ds 0),fun ds=>(dI ds 0).toNat,RunAt.init hf.1 hI.1.2.1,?_⟩;intro ρ1 A7 hx1 Bm;clear hx1;have hR:RunAt p cx an fu (ρ1.i 7) ⟨[ρ1.i 8,ρ1.i 9,ρ1.i 10,ρ1.i 11,ρ1.i 12,ρ1.i 13,ρ1.i 14,ρ1.i 15,ρ1.i 16,ρ1.i 17,ρ1.i 18],ρ1.i 19,ρ1.i 84,ρ1.l 86,ρ1.l 87,ρ1.l 88,ρ1.l 89⟩:=Bm;clear Bm;obtain⟨left,r0,r1,r2,r3,r4,r5,r6,r7,r8,r9,r10,st,pc,a1,t1,c1,f1,M1⟩:=atz ρ1 (kL A7 Fp);simp only[M1]at hR;have FO:c1.length<=256:=by have:=hR.cxl;exact cO (Nat.le_of_eq this) OS
 have H4:=an5 FO hR.fm;have q0:0<=pc:=hR.pc0;have q1:pc<(p.l.length:Int):=hR.pc1;have q2:f1.length=64:=hR.fm;have q4:(t1.length:Int)+left<=fu:=hR.tr;have q5:=hR.lo;have q6:=hR.hi;have I7:=xD hp.1.1 Ai q0 q1;have hd:=av3 I7;simp only[M1,ai,-eq_self];apply aI<;>intro c6;apply aI<;>intro c7
 .exact ak (Ae c7) Fn
 apply aI<;>intro c8;refine⟨?_,?_⟩
 .exact xD hp.1.1 Ai hR.pc0 hR.pc1
 refine fi ?_;apply aI<;>intro c9;apply aI<;>intro CA;apply aI<;>intro DD
 .exact ak (Ae DD) Fn
 apply aI<;>intro Cp;refine⟨?_,?_⟩
 .exact fun _=>(by have hd:=aZ (xD hp.1.1 Ai hR.pc0 hR.pc1);exact⟨hd.2.2.1,hd.2.2.2.1⟩)
 refine fi ?_;refine fi ?_
 .have hk:(ab p.l pc).k=0:=Bs CA;have hw:Ac .andNot .i64 (aV (ab p.l pc)) st=0:=Bs c9;exact RunAt.go hR hp.1.1 Ai hf.2 (Ae c6) (qU hw (.inl hk)) (PN (V4 hk) hd.1 hd.2.1) rfl
 .exact ak (Af Cp) Fn
 apply aI<;>intro C9;apply aI<;>intro DE
 .exact ak (Ae DE) Fn
 apply aI<;>intro DI;intro e;have If:ρ1.i 91=ZG .u64 (gt p.l pc 7):=e.trans (by simp only[M1]);(try simp only[e,bV,ai,du,-eq_self]);clear e;refine⟨?_,?_⟩
 .exact H4
 refine fi ?_;apply aI<;>intro Ew;apply aI<;>intro Ec
 .exact ak (Ae Ec) Fn
 apply aI<;>intro DJ
 .have hk:(ab p.l pc).k=1:=Bs C9;have hw:Ac .andNot .i64 (aV (ab p.l pc)) st=0:=Bs c9;have OR:=Bs Ew;exact RunAt.go hR hp.1.1 Ai hf.2 (Ae c6) (aiM hw hk OR) (PN (atw hk) hd.1 hd.2.1) rfl
 .exact ak (Af DJ) Fn
 refine⟨?_,?_⟩
 .exact H4
 refine fi ?_
 .have hk:(ab p.l pc).k=1:=Bs C9;have hw:Ac .andNot .i64 (aV (ab p.l pc)) st=0:=Bs c9;have OR:=BM Ew;have e:Cm p cx an fu=_:=mI Ab hR hf.2 (Ae c6) (arJ hw hk OR) Os;rw[e];rfl
 .exact ak (Af DI) Fn
 apply aI<;>intro D7;apply aI<;>intro FN
 .exact ak (Ae FN) Fn
 apply aI<;>intro GU;intro e;have If:ρ1.i 91=ZG .u64 (gt p.l pc 7):=e.trans (by simp only[M1]);(try simp only[e,bV,ai,du,-eq_self]);clear e;apply aI<;>intro It
 .exact ak (Ae It) Fn
 apply aI<;>intro KI;have hk:(ab p.l pc).k=2:=Bs D7;obtain⟨a,ea⟩:∃a,Ac .add .u64 (([r0,r1,r2,r3,r4,r5,r6,r7,r8,r9,r10]:List Int).getD (gt p.l pc 5).toNat 0) (ZG .u64 (gt p.l pc 7))=a:=⟨_,rfl⟩
 obtain⟨n,en⟩:∃n,ZG .i64 (gt p.l pc 3)=n:=⟨_,rfl⟩
 obtain⟨v,ev⟩:∃v,([r0,r1,r2,r3,r4,r5,r6,r7,r8,r9,r10]:List Int).getD (gt p.l pc 6).toNat 0=v:=⟨_,rfl⟩
 have hs:bc n=ZB:=en▸adz I7 (.inr hk);have ha:Aj .u64 a=ZB:=ea▸pw _ _;have hn3:=lz hs;have h1:1<=n:=Fn;have h8:n<=8:=Fn;simp only[M1,If,ea,en,ev,-eq_self];refine⟨fun ds=>ds=[],?_,?_⟩;apply aI<;>intro LF
 .rfl
 apply aI<;>intro SX
 .rfl
 apply aI<;>intro SY
 .rfl
 apply aI<;>intro Wy
 .rfl
 refine⟨fun _=>False,fun _=>0,ak hs (by simp[bc,BM LF,BM SX,BM SY,BM Wy]),?_⟩;intro ρ2 DO _ OT;apply aI<;>intro c28;apply aI<;>intro c29
 .exact OT.elim
 .exact OT.elim
 apply aI<;>intro c30;apply aI<;>intro c31;refine⟨?_,?_⟩
 .exact OT.elim
 refine fi ?_
 .exact OT.elim
 .exact OT.elim
 .exact OT.elim
 intro ρ2 DO _ _;have M2:=M1.ag DO;have Ig:=kI DO If;simp only[M2,Ig,ea,en,ev,-eq_self];refine⟨fun ds=>ds=[],?_,?_⟩;refine⟨fun ds=>ds=[.z (Ay (!inr 1048576 [] a n))],?_,?_⟩;apply aI<;>intro SZ
 .exact congrArg (fun z=>[Dt.z (Ay z)]) (xQ SZ)
 apply aI<;>intro Wz
 .exact congrArg (fun z=>[Dt.z (Ay z)]) (qS (l:=[]) ha Os h1 SZ Os Wz)
 .rw[Jp (a:=n) Fn Fn];exact congrArg (fun z=>[Dt.z (Ay z)]) (mT (l:=[]) ha Os h1 h8 SZ Os Wz)
 intro ρ3 Gs _ KK;simp only[AY,Iv,and_true]at KK;have Ny:=KK;have M3:=M2.ag Gs;have Fq:=kI Gs Ig;simp only[M3,Fq,Ny,ea,en,ev,-eq_self];apply aI<;>intro PE
 .rfl
 .repeat' first|apply aI<;>intro c|exact Yc
 intro ρ3 Gs _ _;have M3:=M2.ag Gs;have Fq:=kI Gs Ig;simp only[M3,Fq,ea,en,ev,-eq_self];refine⟨fun ds=>ds=[]/\inr 2097152 c1 a n=ZC,?_,?_⟩;refine⟨fun ds=>ds=[.z (Ay (!inr 2097152 c1 a n))],?_,?_⟩;apply aI<;>intro S0
 .exact congrArg (fun z=>[Dt.z (Ay z)]) (xQ S0)
 apply aI<;>intro WA
 .exact congrArg (fun z=>[Dt.z (Ay z)]) (qS (l:=c1) ha Os h1 S0 (cO FO Os) WA)
 .rw[Jp (a:=n) Fn Fn];exact congrArg (fun z=>[Dt.z (Ay z)]) (mT (l:=c1) ha Os h1 h8 S0 (cO FO Os) WA)
 intro ρ4 HV _ K9;simp only[AY,Iv,and_true]at K9;have Nz:=K9;have M4:=M3.ag HV;have EF:=kI HV Fq;simp only[M4,EF,Nz,ea,en,ev,-eq_self];apply aI<;>intro OO
 .exact⟨rfl,by simpa using OO⟩
 apply aI<;>intro WB
 .have fr:inr 2097152 c1 a n=ZB:=by simpa using OO
  have W:=Win.of fr ha Os (cO FO Os) h1 h8;have w1:=W.lo;have w2:=W.hi;have w3:=W.len;simp only[W.sub,W.cv,W.add]at WB;exact ak (Ae WB) Fn
 apply aI<;>intro WC
 .have fr:inr 2097152 c1 a n=ZB:=by simpa using OO
  have W:=Win.of fr ha Os (cO FO Os) h1 h8;have w1:=W.lo;have w2:=W.hi;have w3:=W.len;simp only[W.sub,W.cv,W.add]at WC;exact ak (Ae WC) Fn
 apply aI<;>intro WD
 .have fr:inr 2097152 c1 a n=ZB:=by simpa using OO
  have W:=Win.of fr ha Os (cO FO Os) h1 h8;have w1:=W.lo;have w2:=W.hi;have w3:=W.len;simp only[W.sub,W.cv,W.add]at WD;exact ak (Ae WD) Fn
 have fr:inr 2097152 c1 a n=ZB:=by simpa using OO
 have W:=Win.of fr ha Os (cO FO Os) h1 h8;refine⟨fun ds=>∃k:Nat,ds=[.z (k:Int),.l (putL c1 (a-2097152).toNat v k),.l f1]/\k<=n.toNat,fun ds=>n.toNat-(dI ds 0).toNat,⟨0,rfl,Nat.zero_le _⟩,?_⟩;intro ρ5 FP _ LN;obtain⟨k,Bw,Dj⟩:=LN;simp only[AY,Iv,and_true]at Bw;obtain⟨NB,NC,ND⟩:=Bw;have M5:=M4.ag FP;have Dx:=kI FP EF;simp only[M5,Dx,NB,NC,ND,ea,en,ev,W.sub,W.cv,W.add,W.win,W.len,-eq_self];apply aI<;>intro KW;apply aI<;>intro WE
 .have Eh:k<n.toNat:=YP.1 (Ae KW);have w1:=W.lo;have w2:=W.hi;have w3:=W.len;rw[Q1 Fn]at WE;exact ak (Ae WE) Fn
 apply aI<;>intro WF
 .have Eh:k<n.toNat:=YP.1 (Ae KW);have w1:=W.lo;have w2:=W.hi;have w3:=W.len;rw[dg]at WF;exact ak (Ae WF) Fn
 apply aI<;>intro c47
 .have Eh:k<n.toNat:=YP.1 (Ae KW);have w1:=W.lo;have w2:=W.hi;have w3:=W.len;exact ak (Ae c47) Fn
 apply aI<;>intro WG;apply aI<;>intro WH
 .have Eh:k<n.toNat:=YP.1 (Ae KW);have w1:=W.lo;have w2:=W.hi;have w3:=W.len;rw[(W.byte (cO FO Os) Eh).1]at WH;exact ak (Ae WH) Fn
 apply aI<;>intro WI
 .have Eh:k<n.toNat:=YP.1 (Ae KW);rw[putS W (cO FO Os) v Eh,KR Eh (cO (by omega:n.toNat<=8) Os)];exact⟨⟨k+1,rfl,Eh⟩,by show n.toNat-(((k+1:Nat):Int)).toNat<n.toNat-((k:Int)).toNat;omega⟩
 .have Eh:k<n.toNat:=YP.1 (Ae KW);have w1:=W.lo;have w2:=W.hi;have w3:=W.len;rw[(W.byte (cO FO Os) Eh).1,dg]at WI;exact ak (Af WI) Fn
 .have Eh:k<n.toNat:=YP.1 (Ae KW);have w1:=W.lo;have w2:=W.hi;have w3:=W.len;simp only[ZV,YQ,dg]at WG;exact ak (Af WG) Fn
 apply aI<;>intro c51;apply aI<;>intro c52
 .have hk:(ab p.l pc).k=2:=Bs D7;have hw:Ac .andNot .i64 (aV (ab p.l pc)) st=0:=Bs c9;obtain rfl:k=n.toNat:=by have:=Af KW;omega
  have g2:inr 3145728 f1 a n=ZC:=by have:=W.hi;have:=W.lo;unfold inr;rw[fB Fn];rfl
  have eC:Jn ⟨[r0,r1,r2,r3,r4,r5,r6,r7,r8,r9,r10],st,pc,a1,t1,c1,f1⟩ a n v=putL c1 (a-2097152).toNat v n.toNat:=ae fr;have eF:Hw ⟨[r0,r1,r2,r3,r4,r5,r6,r7,r8,r9,r10],st,pc,a1,t1,c1,f1⟩ a n v=f1:=aa (by rw[g2];decide);have eO:EL ⟨[r0,r1,r2,r3,r4,r5,r6,r7,r8,r9,r10],st,pc,a1,t1,c1,f1⟩ a n=ZB:=by unfold EL;rw[show inr 2097152 c1 a n=ZB from fr];rfl
  exact RunAt.go hR hp.1.1 Ai hf.2 (Ae c6) (TF hw hk ea en eO) (by rw[atv (m:=⟨[r0,r1,r2,r3,r4,r5,r6,r7,r8,r9,r10],st,pc,a1,t1,c1,f1⟩) hk ea en ev,eC,eF];rfl) rfl
 .exact ak (show _=(64:Int) by(try simp only[dg]);omega) (BM c52)
 .exact ak (Af c51) (by(try simp only[dg]);omega)
 intro ρ4 HV _ K9;obtain⟨_,g1⟩:=K9;have M4:=M3.ag HV;have EF:=kI HV Fq;simp only[M4,EF,ea,en,ev,-eq_self];refine⟨fun ds=>ds=[]/\inr 3145728 f1 a n=ZC,?_,?_⟩;refine⟨fun ds=>ds=[.z (Ay (!inr 3145728 f1 a n))],?_,?_⟩;apply aI<;>intro S2
 .exact congrArg (fun z=>[Dt.z (Ay z)]) (xQ S2)
 apply aI<;>intro WJ
 .exact congrArg (fun z=>[Dt.z (Ay z)]) (qS (l:=f1) ha Os h1 S2 X7 WJ)
 .rw[Jp (a:=n) Fn Fn];exact congrArg (fun z=>[Dt.z (Ay z)]) (mT (l:=f1) ha Os h1 h8 S2 X7 WJ)
 intro ρ5 FP _ LN;simp only[AY,Iv,and_true]at LN;have NA:=LN;have M5:=M4.ag FP;have Dx:=kI FP EF;simp only[M5,Dx,NA,ea,en,ev,-eq_self];apply aI<;>intro OP
 .exact⟨rfl,by simpa using OP⟩
 apply aI<;>intro WK
 .have fr:inr 3145728 f1 a n=ZB:=by simpa using OP
  have W:=Win.of fr ha Os X7 h1 h8;have w1:=W.lo;have w2:=W.hi;have w3:=W.len;simp only[W.sub,W.cv,W.add]at WK;exact ak (Ae WK) Fn
 apply aI<;>intro WL
 .have fr:inr 3145728 f1 a n=ZB:=by simpa using OP
  have W:=Win.of fr ha Os X7 h1 h8;have w1:=W.lo;have w2:=W.hi;have w3:=W.len;simp only[W.sub,W.cv,W.add]at WL;exact ak (Ae WL) Fn
 apply aI<;>intro c58
 .have fr:inr 3145728 f1 a n=ZB:=by simpa using OP
  have W:=Win.of fr ha Os X7 h1 h8;have w1:=W.lo;have w2:=W.hi;have w3:=W.len;simp only[W.sub,W.cv,W.add]at c58;exact ak (Ae c58) Fn
 have fr:inr 3145728 f1 a n=ZB:=by simpa using OP
 have W:=Win.of fr ha Os X7 h1 h8;refine⟨fun ds=>∃k:Nat,ds=[.z (k:Int),.l c1,.l (putL f1 (a-3145728).toNat v k)]/\k<=n.toNat,fun ds=>n.toNat-(dI ds 0).toNat,⟨0,rfl,Nat.zero_le _⟩,?_⟩;intro ρ6 Gt _ I5;obtain⟨k,Bw,Dj⟩:=I5;simp only[AY,Iv,and_true]at Bw;obtain⟨NH,NJ,NK⟩:=Bw;have M6:=M5.ag Gt;have EG:=kI Gt Dx;simp only[M6,EG,NH,NJ,NK,ea,en,ev,W.sub,W.cv,W.add,W.win,W.len,-eq_self];apply aI<;>intro LG;apply aI<;>intro c60
 .have Eh:k<n.toNat:=YP.1 (Ae LG);have w1:=W.lo;have w2:=W.hi;have w3:=W.len;rw[Q1 Fn]at c60;exact ak (Ae c60) Fn
 apply aI<;>intro c61
 .have Eh:k<n.toNat:=YP.1 (Ae LG);have w1:=W.lo;have w2:=W.hi;have w3:=W.len;rw[dg]at c61;exact ak (Ae c61) Fn
 apply aI<;>intro c62
 .have Eh:k<n.toNat:=YP.1 (Ae LG);have w1:=W.lo;have w2:=W.hi;have w3:=W.len;exact ak (Ae c62) Fn
 apply aI<;>intro c63;apply aI<;>intro c64
 .have Eh:k<n.toNat:=YP.1 (Ae LG);have w1:=W.lo;have w2:=W.hi;have w3:=W.len;rw[(W.byte X7 Eh).1]at c64;exact ak (Ae c64) Fn
 apply aI<;>intro c65
 .have Eh:k<n.toNat:=YP.1 (Ae LG);rw[putS W X7 v Eh,KR Eh (cO (by omega:n.toNat<=8) Os)];exact⟨⟨k+1,rfl,Eh⟩,by show n.toNat-(((k+1:Nat):Int)).toNat<n.toNat-((k:Int)).toNat;omega⟩
 .have Eh:k<n.toNat:=YP.1 (Ae LG);have w1:=W.lo;have w2:=W.hi;have w3:=W.len;rw[(W.byte X7 Eh).1,dg]at c65;exact ak (Af c65) Fn
 .have Eh:k<n.toNat:=YP.1 (Ae LG);have w1:=W.lo;have w2:=W.hi;have w3:=W.len;simp only[ZV,YQ,dg]at c63;exact ak (Af c63) Fn
 apply aI<;>intro c66;apply aI<;>intro c67
 .have hk:(ab p.l pc).k=2:=Bs D7;have hw:Ac .andNot .i64 (aV (ab p.l pc)) st=0:=Bs c9;obtain rfl:k=n.toNat:=by have:=Af LG;omega
  have eC:Jn ⟨[r0,r1,r2,r3,r4,r5,r6,r7,r8,r9,r10],st,pc,a1,t1,c1,f1⟩ a n v=c1:=aa (by rw[g1];decide);have eF:Hw ⟨[r0,r1,r2,r3,r4,r5,r6,r7,r8,r9,r10],st,pc,a1,t1,c1,f1⟩ a n v=putL f1 (a-3145728).toNat v n.toNat:=ae fr;have eO:EL ⟨[r0,r1,r2,r3,r4,r5,r6,r7,r8,r9,r10],st,pc,a1,t1,c1,f1⟩ a n=ZB:=by unfold EL;rw[show inr 3145728 f1 a n=ZB from fr,Bool.or_true]
  exact RunAt.go hR hp.1.1 Ai hf.2 (Ae c6) (TF hw hk ea en eO) (by rw[atv (m:=⟨[r0,r1,r2,r3,r4,r5,r6,r7,r8,r9,r10],st,pc,a1,t1,c1,f1⟩) hk ea en ev,eC,eF];rfl) rfl
 .exact ak (show _=(64:Int) by(try simp only[dg]);omega) (BM c67)
 .exact ak (Af c66) (by(try simp only[dg]);omega)
 intro ρ5 FP _ LN;obtain⟨_,g2⟩:=LN;have M5:=M4.ag FP;have Dx:=kI FP EF;simp only[M5,Dx,ea,en,ev,-eq_self];refine⟨fun ds=>ds=[]/\inr 4194304 [] a n=ZC,?_,?_⟩;refine⟨fun ds=>ds=[.z (Ay (!inr 4194304 [] a n))],?_,?_⟩;apply aI<;>intro WN
 .exact congrArg (fun z=>[Dt.z (Ay z)]) (xQ WN)
 apply aI<;>intro c69
 .exact congrArg (fun z=>[Dt.z (Ay z)]) (qS (l:=[]) ha Os h1 WN Os c69)
 .rw[Jp (a:=n) Fn Fn];exact congrArg (fun z=>[Dt.z (Ay z)]) (mT (l:=[]) ha Os h1 h8 WN Os c69)
 intro ρ6 Gt _ I5;simp only[AY,Iv,and_true]at I5;have NF:=I5;have M6:=M5.ag Gt;have EG:=kI Gt Dx;simp only[M6,EG,NF,ea,en,ev,-eq_self];apply aI<;>intro c70
 .exact⟨rfl,by simpa using c70⟩
 .exact ak c70 (by simp[qR h1])
 intro ρ6 Gt _ I5;obtain⟨_,g3⟩:=I5;have M6:=M5.ag Gt;have EG:=kI Gt Dx;simp only[M6,EG,ea,en,ev,-eq_self];refine⟨fun ds=>ds=[.z 0,.l c1,.l f1],fun _=>0,rfl,?_⟩;intro ρ7 K5 _ Iz;simp only[AY,Iv,and_true]at Iz;obtain⟨NM,NN,NO⟩:=Iz;have M7:=M6.ag K5;have NL:=kI K5 EG;simp only[M7,NL,NM,NN,NO,ea,en,ev,-eq_self];apply aI<;>intro c71;apply aI<;>intro c72
 .exact ak (Ae c71) Os
 .exact ak (Ae c71) Os
 apply aI<;>intro c73;apply aI<;>intro c74;refine⟨?_,?_⟩
 .exact H4
 refine fi ?_
 .have hk:(ab p.l pc).k=2:=Bs D7;have hw:Ac .andNot .i64 (aV (ab p.l pc)) st=0:=Bs c9;have eO:EL ⟨[r0,r1,r2,r3,r4,r5,r6,r7,r8,r9,r10],st,pc,a1,t1,c1,f1⟩ a n=ZC:=by unfold EL;rw[show inr 2097152 c1 a n=ZC from g1,show inr 3145728 f1 a n=ZC from g2];rfl
  have e:Cm p cx an fu=_:=mI Ab hR hf.2 (Ae c6) (arI hw hk ea en eO) Os;rw[e];rfl
 .exact ak (show _=(64:Int) by omega) (BM c74)
 .exact ak (Af c73) Fn
 .exact ak (Af KI) Fn
 .exact ak (Af GU) Fn
 apply aI<;>intro WO;apply aI<;>intro c76
 .exact ak (Ae c76) Fn
 apply aI<;>intro c77;refine⟨?_,?_⟩
 .exact fun _=>(by have hd:=aZ (xD hp.1.1 Ai hR.pc0 hR.pc1);exact⟨hd.2.2.1,hd.2.2.2.1⟩)
 refine fi ?_;refine fi ?_;apply aI<;>intro c78;refine fi ?_
 .have hk:(ab p.l pc).k=3:=Bs WO;have hw:Ac .andNot .i64 (aV (ab p.l pc)) st=0:=Bs c9;exact RunAt.go hR hp.1.1 Ai hf.2 (Ae c6) (qU hw (.inr (.inl hk))) ((ats (m:=⟨[r0,r1,r2,r3,r4,r5,r6,r7,r8,r9,r10],st,pc,a1,t1,c1,f1⟩) hk c78).symm) rfl
 .have hk:(ab p.l pc).k=3:=Bs WO;have hw:Ac .andNot .i64 (aV (ab p.l pc)) st=0:=Bs c9;exact RunAt.go hR hp.1.1 Ai hf.2 (Ae c6) (qU hw (.inr (.inl hk))) ((att (m:=⟨[r0,r1,r2,r3,r4,r5,r6,r7,r8,r9,r10],st,pc,a1,t1,c1,f1⟩) hk c78).symm) rfl
 .exact ak (Af c77) Fn
 apply aI<;>intro c79;refine fi ?_
 .have hk:(ab p.l pc).k=4:=Bs c79;have hw:Ac .andNot .i64 (aV (ab p.l pc)) st=0:=Bs c9;exact RunAt.go hR hp.1.1 Ai hf.2 (Ae c6) (qU hw (.inr (.inr hk))) (by rw[avC hk];rfl) rfl
 apply aI<;>intro WP;apply aI<;>intro WQ;refine⟨?_,?_⟩
 .exact H4
 refine fi ?_
 .have hk:(ab p.l pc).k=5:=Bs WP;have hw:Ac .andNot .i64 (aV (ab p.l pc)) st=0:=Bs c9;have e:Cm p cx an fu=_:=mI Ab hR hf.2 (Ae c6) (aiN hw hk (show a1.length=0 by have:=Bs WQ;omega)) Os;rw[e];rfl
 refine fi ?_;apply aI<;>intro c82
 .have z:=bH (gt p.l pc 8);rw[show Ac .add .i64 1 (iD (gt p.l pc 8))=1+iD (gt p.l pc 8)from Gl Fn Fn]at c82;exact ak (Ae c82) Fn
 apply aI<;>intro c83
 .have z:=bH (gt p.l pc 8);rw[show Ac .add .i64 1 (iD (gt p.l pc 8))=1+iD (gt p.l pc 8)from Gl Fn Fn]at c83;exact ak (Ae c83) Fn
 apply aI<;>intro c84;apply aI<;>intro c85
 .have z:=bH (gt p.l pc 8);rw[show Ac .add .i64 1 (iD (gt p.l pc 8))=1+iD (gt p.l pc 8)from Gl Fn Fn,ZV,YQ]at c85;exact ak (Ae c85) (by simp only[Int.toNat_one];omega)
 apply aI<;>intro c86;apply aI<;>intro c87
 .exact ak (Ae c87) (by have:=Ae c84;omega)
 .have hk:(ab p.l pc).k=5:=Bs WP;have hw:Ac .andNot .i64 (aV (ab p.l pc)) st=0:=Bs c9;exact RunAt.go hR hp.1.1 Ai hf.2 (Ae c6) (aiO hw hk (show a1.length≠0 by have:=BM WQ;omega)) (by rw[avB hk];rfl) rfl
 .exact ak (Af c86) Fn
 .exact ak (Af c84) (by have:=BM WQ;omega)
 apply aI<;>intro c88;refine⟨?_,?_⟩
 .exact H4
 refine fi ?_
 .have hk:(ab p.l pc).k=6:=Bs c88;have hw:Ac .andNot .i64 (aV (ab p.l pc)) st=0:=Bs c9;have e:Cm p cx an fu=_:=mI Ab hR hf.2 (Ae c6) (anX hw hk) Os;rw[e];rfl
 .have n0:=BM CA;have n1:=BM C9;have n2:=BM D7;have n3:=BM WO;have n4:=BM c79;have n5:=BM WP;have n6:=BM c88;omega
 refine⟨?_,?_⟩
 .exact H4
 refine fi ?_
 .have e:Cm p cx an fu=_:=mI Ab hR hf.2 (Ae c6) (aus (BM c9)) Os;rw[e];rfl
 .exact ak q1 (Af c8)
 refine⟨?_,?_⟩
 .exact H4
 refine fi ?_
 .have e:Cm p cx an fu=_:=alx Ab hR (Af c6);rw[e]
 .exact ak (Af c5) (by have:=Af c4;omega)
 .have e:Cm p cx an fu=_:=uS (zF (Bs c0) (.inl (BM c1))) Os;rw[e]
 .have e:Cm p cx an fu=_:=uS (alq (BM c0)) (BM c0);rw[e]
def am{s:Sc}{b:Bool}:oA t s b=if -1048576<=s.sl/\s.sh<=1048576 /\ -1048576<=(au t s b).lo/\(au t s b).lo<=1048576 /\ -1048576<=(au t s b).hi/\(au t s b).hi<=1048576 then au t s b else tscal:=by unfold oA BK;simp only[ne,ax,and_assoc]
def aN:=aI Prog.eta (Ins.eta)
def aJ{p:Prop}(k:q2)(h:p->q=q2:=by intro e;(try simp only[e,ct,aN,ai,aB,-eq_self]);rfl):p->q:=fun e=>(h e).symm▸k
def yG:List (Nat×TI):=[(2,DA),
 (3,C1),
 (4,EM),
 (36,Pk),
 (39,hZ),
 (41,rK),
 (43,hJ),
 (57,lm),
 (59,oQ),
 (61,iM),
 (63,yL),
 (110,Rz),
 (143,amR),
 (154,⟨ZB,10,(zN 10 0),[],ZA (10,39),ZD,ZC,ZC,ZD,10,ZC,ZD,ZC,0⟩)]
def jF:∀t i,(t,i)∈yG->TIok ZF t i:=bK (Ed (z:=lR) ⟨lb,ij⟩<|Ed (z:=FC) ⟨Mu,qW⟩<|Ed (z:=D5) ⟨Mr,qV⟩ Ch) Ch (by kernel_rfl)
def zo:List Dt->Prop
 |[.z x0]=>let f (n:Int):Prop:= -64<=n/\n<=64;f x0
 |_=>False
def c_vbel:Cd:=⟨67,[.one (.int .i64)],[.agg kSc],rdZ fun n _=>d_Sc (Hz (Ac .shr .u64 18446744073709551615 (Ac .sub .i64 64 n))) [],zo⟩
def U7:E:=(.f .shr .u64 (.p 18446744073709551615) (.f .sub .i64 (.p 64) (.w 0)))
def agy:Tr:=
(.br (.lt (.f .sub .i64 (.p 64) (.w 0)) (.p 0))
.panic
(.call 0 (kRg) .nil 1
(.call 1 (kSc) (.cons (.w 1) (.cons U7 (.vs 3 2 (.cons (.p 0) (.cons U7 .nil))))) 5
(.u (.vs 5 6 .nil)))))
def atZ:c_vbel.Ok ZF:=
 A4 agy [.int .i64] jF (Aq oh<|Aq oe AR) func67<|fun n hn hp ρ g=>by
 simp only[c_vbel,zo,A5,b2i_one,ct,aN,ai,aB]at hp;simp only[A5,AP,AT,ZE]at g;simp only[agy,U7,c_all,c_vnard,c_vbel,A5,AP,Am,YI,ZE,-eq_self,ct,aN,ai,aB,g];apply aI<;>intro c0
 ·(have h:ZG .i64 (64-n)<0:=Ae c0;have gn:=iX hn;rw[aK]at h;omega)
 refine aJ ?_;refine aJ ?_
 .rfl
def c_vby:Cd:=⟨37,[.one (.int .i64)],[.agg kSc],rdZ fun q _=>d_Sc (C5 q) [],T0⟩
def am4:Tr:=
(.call 0 (kSc) (.cons (.f .mul .i64 (.p 8) (.mn (.mx (.w 0) (.p 1)) (.p 8))) .nil) 1
(.u (.vs 1 6 .nil)))
def Wm:c_vby.Ok ZF:=
 A4 am4 [.int .i64] jF (Aq atZ AR) func37<|fun q hq hp ρ g=>by
 simp only[A5,AT,ZE]at g;simp only[am4,c_vbel,c_vby,zo,A5,Am,YI,ZE,-eq_self,ct,aN,ai,aB,g];refine⟨?_,?_⟩
 ·(show -64<=ZG .i64 (8*min (max q 1) 8)/\IntKind.i64.wrap (8*min (max q 1) 8)<=64;rw[aK];omega)
 refine aJ ?_
 ·(refine au5 ?_;unfold C5;rcases aam q with h|h|h|h|h|h|h|h<;>rw[h]<;>rfl)
def Wa(key:Nat):Sm:=⟨33,key,[.one (.int .u64)],[.one (.int .i64)],ZC⟩
def asZ(x:Int):List Dt:=[.z (CL x)]
def Sw:List Dt->List Dt
 |[.z x0]=>asZ x0
 |_=>[]
def V9:Tr:=
(.call 0 [.int .i64] (.cons (.w 0) .nil) 1
(.u (.cons (.w 1) .nil)))
def as5:Spec:={F:=fun k=>match k with|0=>qq|_=>fun _=>[],pre:=fun _ _=>True,hw:=JA,hx:=sHx,hi:=sHi}
def avx:cG yG [zt 0] [] [] [] 200 f33 [.one (.int .u64)] [.one (.int .i64)] ZC [.int .u64] V9:=FJ (by kernel_rfl)
def avv(x:Int)(hx:Aj .u64 x=ZB):Cn V9 as5 [.int .u64] [.z x] Sw:=by
 intro ρ g;simp only[AT,ZE]at g;simp only[V9,as5,qq,agm,Sw,asZ,Am,YI,ZE,-eq_self,ct,aN,ai,aB,g];refine aJ ?_
 ·(simp only[qq];try rfl)
def avy{sp:Spec}(hF:sp.F key=Sw)(hP:sp.pre key=fun _=>True:=by rfl)(hH:∀w,sp.hw w->JA w:=by exact fun _ h=>h):SmOk ZF sp (Wa key):=Uy (s:=Wa key) (hW:=hH) hF hP (by kernel_rfl) jF (EK (ahb rfl) sm0) func33 FD avx (.inl rfl) (fun x gx hp=>avv x gx)
def c_bnot:Cd:=⟨41,[.one (.int .i8)],[.one (.int .i8),.one .bool],rdZ fun cc _=>[.z (im cc),.z (Ay (gE cc))],T0⟩
def ag5:Tr:=
(.br (.lt (.w 0) (.p 0))
(.u (.cons (.p 0) (.j (.tt ZC) .nil)))
(.br (.lt (.w 0) (.p 10))
(.br (.eq (.w 0) (.p 0))
(.u (.cons (.p 1) (.j (.tt ZB) .nil)))
(.br (.eq (.w 0) (.p 1))
(.u (.cons (.p 0) (.j (.tt ZB) .nil)))
(.br (.eq (.w 0) (.p 2))
(.u (.cons (.p 5) (.j (.tt ZB) .nil)))
(.br (.eq (.w 0) (.p 3))
(.u (.cons (.p 4) (.j (.tt ZB) .nil)))
(.br (.eq (.w 0) (.p 4))
(.u (.cons (.p 3) (.j (.tt ZB) .nil)))
(.br (.eq (.w 0) (.p 5))
(.u (.cons (.p 2) (.j (.tt ZB) .nil)))
(.br (.eq (.w 0) (.p 6))
(.u (.cons (.p 9) (.j (.tt ZB) .nil)))
(.br (.eq (.w 0) (.p 7))
(.u (.cons (.p 8) (.j (.tt ZB) .nil)))
(.br (.eq (.w 0) (.p 8))
(.u (.cons (.p 7) (.j (.tt ZB) .nil)))
(.br (.eq (.w 0) (.p 9))
(.u (.cons (.p 6) (.j (.tt ZB) .nil)))
.panic))))))))))
(.u (.cons (.p 0) (.j (.tt ZC) .nil)))))
def aul:c_bnot.Ok ZF:=
 A4 ag5 [.int .i8] jF AR func41<|fun cc Cq hp ρ g=>by
 simp only[AT,ZE]at g;simp only[ag5,c_bnot,Am,YI,ZE,-eq_self,ct,aN,ai,aB,g];apply aI<;>intro c0
 .exact Xv
 apply aI<;>intro c1;apply aI<;>intro c2
 .exact Xv
 apply aI<;>intro c3
 .exact Xv
 apply aI<;>intro c4
 .exact Xv
 apply aI<;>intro c5
 .exact Xv
 apply aI<;>intro c6
 .exact Xv
 apply aI<;>intro c7
 .exact Xv
 apply aI<;>intro c8
 .exact Xv
 apply aI<;>intro c9
 .exact Xv
 apply aI<;>intro CA
 .exact Xv
 apply aI<;>intro DD
 .exact Xv
 ·(simp_all;omega)
 .exact Xv
def ql:List Dt->Prop
 |[.l x0,.z x1,.z x2,.z x3,.z x4,.z x5,.z x6,.z x7,.z x8,.z x9,.z Iq,.z Jq,.z x12,.z x13,.z x14,.z x15,.z x16,.z x17,.z x18]=>let f (x:LL) (a:Ty) (b:Ty):Prop:=x.length=1;f x0 ⟨x1,x2,x3,x4,x5,x6,x7,x8,x9⟩ ⟨Iq,Jq,x12,x13,x14,x15,x16,x17,x18⟩
 |_=>False
def c_valu:Cd:=⟨35,[.one (.el (kN 9 220090000) 41),.agg kTy,.agg kTy],[.agg kTy],rdL fun x=>rd_Ty fun a=>rd_Ty fun b _=>d_Ty (Do (ab x 0) a b) [],ql⟩
def Si:E:=(.f .add .i64 (.w 27) (.f .sub .i64 (.p 0) (.w 31)))
def Sj:E:=(.f .add .i64 (.w 26) (.f .sub .i64 (.p 0) (.w 32)))
def U3:Tr:=(.u (.cons (.p 1) (.vs 37 6 (.cons (.p 0) (.cons (.p 0) .nil)))))
def U4:Tr:=(.call 2 (kSc) (.cons (.p 4) .nil) 37
 U3)
def U5:Tr:=(.br (.eq (.get (.g 0) (.p 0) 2) (.p 64))
(.br (.eq (.get (.g 0) (.p 0) 1) (.p 0))
(.br (.lt (.w 22) (.p (-1048576)))
(.call 3 (kTy) .nil 37
(.u (.vs 37 9 .nil)))
(.br (.lt (.p 1048576) (.w 23))
(.call 3 (kTy) .nil 37
(.u (.vs 37 9 .nil)))
(.br (.lt (.f .add .i64 (.w 35) (.w 22)) (.p (-1048576)))
(.call 3 (kTy) .nil 37
(.u (.vs 37 9 .nil)))
(.br (.lt (.p 1048576) (.f .add .i64 (.w 35) (.w 22)))
(.call 3 (kTy) .nil 37
(.u (.vs 37 9 .nil)))
(.br (.lt (.f .add .i64 (.w 36) (.w 23)) (.p (-1048576)))
(.call 3 (kTy) .nil 37
(.u (.vs 37 9 .nil)))
(.br (.lt (.p 1048576) (.f .add .i64 (.w 36) (.w 23)))
(.call 3 (kTy) .nil 37
(.u (.vs 37 9 .nil)))
(.u (.vs 28 7 (.cons (.f .add .i64 (.w 35) (.w 22)) (.cons (.f .add .i64 (.w 36) (.w 23)) .nil))))))))))
(.call 3 (kTy) .nil 37
(.u (.vs 37 9 .nil))))
 U4)
def U6:Tr:=(.br (.eq (.get (.g 0) (.p 0) 2) (.p 64))
(.br (.eq (.w 28) (.p 2))
(.call 3 (kTy) .nil 37
(.u (.vs 37 9 .nil)))
(.br (.eq (.w 28) (.p 3))
(.call 3 (kTy) .nil 37
(.u (.vs 37 9 .nil)))
(.br (.eq (.get (.g 0) (.p 0) 1) (.p 0))
(.br (.lt (.w 31) (.p (-1048576)))
(.call 3 (kTy) .nil 37
(.u (.vs 37 9 .nil)))
(.br (.lt (.p 1048576) (.w 32))
(.call 3 (kTy) .nil 37
(.u (.vs 37 9 .nil)))
(.br (.lt (.f .add .i64 (.w 26) (.w 31)) (.p (-1048576)))
(.call 3 (kTy) .nil 37
(.u (.vs 37 9 .nil)))
(.br (.lt (.p 1048576) (.f .add .i64 (.w 26) (.w 31)))
(.call 3 (kTy) .nil 37
(.u (.vs 37 9 .nil)))
(.br (.lt (.f .add .i64 (.w 27) (.w 32)) (.p (-1048576)))
(.call 3 (kTy) .nil 37
(.u (.vs 37 9 .nil)))
(.br (.lt (.p 1048576) (.f .add .i64 (.w 27) (.w 32)))
(.call 3 (kTy) .nil 37
(.u (.vs 37 9 .nil)))
(.u (.vs 19 7 (.cons (.f .add .i64 (.w 26) (.w 31)) (.cons (.f .add .i64 (.w 27) (.w 32)) .nil))))))))))
(.br (.eq (.get (.g 0) (.p 0) 1) (.p 1))
(.br (.lt (.w 31) (.p (-1048576)))
(.call 3 (kTy) .nil 37
(.u (.vs 37 9 .nil)))
(.br (.lt (.p 1048576) (.w 32))
(.call 3 (kTy) .nil 37
(.u (.vs 37 9 .nil)))
(.br (.lt Sj (.p (-1048576)))
(.call 3 (kTy) .nil 37
(.u (.vs 37 9 .nil)))
(.br (.lt (.p 1048576) Sj)
(.call 3 (kTy) .nil 37
(.u (.vs 37 9 .nil)))
(.br (.lt Si (.p (-1048576)))
(.call 3 (kTy) .nil 37
(.u (.vs 37 9 .nil)))
(.br (.lt (.p 1048576) Si)
(.call 3 (kTy) .nil 37
(.u (.vs 37 9 .nil)))
(.u (.vs 19 7 (.cons Sj (.cons Si .nil))))))))))
(.call 3 (kTy) .nil 37
(.u (.vs 37 9 .nil)))))))
 U4)
def zj:Tr:=
(.br (.lt (.p 0) (.len (.g 0)))
(.cut 0 19 [.int .i8,.int .u64,.int .u64,.int .i64,.int .i64,.int .u64,.int .u64,.int .i64,.int .i64,.int .i8,.int .u64,.int .u64,.int .i64,.int .i64,.int .u64,.int .u64,.int .i64,.int .i64]
(.br (.eq (.get (.g 0) (.p 0) 1) (.p 11))
(.br (.eq (.get (.g 0) (.p 0) 2) (.p 64))
(.u (.vs 10 9 .nil))
(.next 0 (.vs 10 9 (.vs 10 9 .nil))))
(.br (.eq (.get (.g 0) (.p 0) 1) (.p 8))
(.call 0 (kSc) (.cons (.p 0) .nil) 19
(.next 0 (.vs 1 9 (.cons (.p 1) (.vs 19 6 (.cons (.p 0) (.cons (.p 0) .nil)))))))
(.next 0 (.vs 1 18 .nil))))
(.br (.eq (.w 19) (.p 2))
 U6
(.br (.eq (.w 19) (.p 3))
 U6
(.br (.eq (.w 28) (.p 2))
 U5
(.br (.eq (.w 28) (.p 3))
 U5
(.call 1 (kSc) (.cons (.get (.g 0) (.p 0) 1) (.cons (.get (.g 0) (.p 0) 2) (.vs 20 6 (.vs 29 6 .nil)))) 37
 U3))))))
(.stuck 54))
def aqe:cG yG (FH 0 [c_vone,c_vdo,c_vby,c_tscal]) [(63,f63,[],[]),(34,f34,[],[]),(65,f65,[],[]),(102,f102,[],[])] [(999997,[])] [(8,[.cels 1 0 (kN 9 221122110),.cels 2 0 (kN 9 221122110)]++Eb [(13,25)])] 200 f35 c_valu.a c_valu.r (tp c_valu.r) (.list (kN 9 220090000)::v_Ty (v_Ty [])) zj:=FJ (by kernel_rfl)
def at2:c_valu.Ok ZF:=
 GJ (hl:=.inr (.inl ⟨(fun xs (h:ql xs) L hL=>by unfold ql at h;split at h<;>first|exact h.elim|(simp at hL;subst hL;rw[h];unfold maxLen;omega)),rfl⟩)) zj (.list (kN 9 220090000)::v_Ty (v_Ty [])) jF (Aq R3<|Aq avN<|Aq Wm<|Aq qP AR) func35 (Da func63 (Da func34 (Da func65 (Da func102 FD)))) aqe<|fun x hx=>bP fun a ha=>bP fun b hb hp ρ g=>by
 simp only[c_valu,ql,Bo,b2i_one,ct,aN,ai,aB]at hp;have As:=g;simp only[Bo,A5,AT,ZE]at g;simp only[zj,U6,U5,U4,U3,Sj,Si,c_vone,c_vdo,c_vby,c_tscal,c_valu,Bo,A5,Am,YI,ZE,-eq_self,ct,aN,ai,aB,g];apply aI<;>intro c0;refine⟨fun ds=>∃a1 b1:Ty,ds=d_Ty a1 (d_Ty b1 [])/\Do (ab x 0) a b=bf (ab x 0).op (ab x 0).w a1 b1,?_,?_⟩;apply aI<;>intro c1;apply aI<;>intro c2
 .rw[va_m c1 c2];try rfl
 .exact⟨b,b,rfl,va_o c1 c2⟩
 apply aI<;>intro c3;refine aJ ?_
 .exact⟨a,DH (B7 0),rfl,va_n c1 c3⟩
 .exact⟨a,b,rfl,va_e c1 c3⟩
 intro ρ1 A7 _ Bm;obtain⟨a1,b1,Bm,hj⟩:=Bm;have An:=(oZ A7 _ 0 Os).trans As;have g1:=An;simp only[Bo,A5,AT,ZE]at g1 Bm;simp only[g1,Bm,ct,aN,-eq_self]
 .repeat' first|apply aI<;>intro c|refine aJ ?_|exact Fd
 ·(rw[hp]at c0;simp at c0)
def anA{p:Prop}(k:q2)(h:p->q=q2:=by intro e;(try simp only[e,ct,aN,ai,aB,-eq_self]);rfl):p->q:=fun e=>(h e).symm▸k
def tZ:List (Nat×TI):=[(3,C1),
 (5,KB),
 (9,⟨ZC,1,[.str .ln],[],ZD,ZD,ZC,ZC,ZD,16,ZC,ZD,ZC,2⟩),
 (25,Pm),
 (26,SG),
 (39,hZ),
 (43,hJ),
 (44,SF),
 (46,VF),
 (177,Ry)]
def pV:∀t i,(t,i)∈tZ->TIok ZF t i:=bK Ch Ch (by kernel_rfl)
def jK:List Dt->Prop
 |[.l x0,.l x1]=>let f (a:LL) (b:LL):Prop:=a=b/\a.length<=maxLen;f x0 x1
 |_=>False
def c_twords:Cd:=⟨128,[.one (.sl [ZA .u64] 43),.one (.sl [ZA .u64] 43),.one (.fn 129)],[.one .bool],rdL fun a=>rdL fun b _=>[.z (Ay ZB)],jK⟩
def qg:Tr:=
(.br (.lt (.len (.g 1)) (.len (.g 0)))
 zlF
(.loop 0 2 [.int .i64] (.cons (.p 0) .nil)
(.br (.lt (.w 2) (.len (.g 0)))
(.br (.lt (.w 2) (.p 0))
.panic
(.br (.lt (.w 2) (.len (.g 1)))
(.br (.eq (.get (.g 0) (.w 2) 0) (.get (.g 1) (.w 2) 0))
(.next 0 (.cons (.f .add .i64 (.w 2) (.p 1)) .nil))
 zlF)
.panic))
 zlT)))
def ag6:cG tZ (FH 0 []) [(129,f129,[],[])] [(4,[.tmpI 15 .i64]++Eb [(6,2),(16,14)]),(999999,[])] [] 200 f128 c_twords.a c_twords.r (tp c_twords.r) [.list [ZA .u64],.list [ZA .u64]] qg:=FJ (by kernel_rfl)
def alK:c_twords.Ok ZF:=
 GJ (hl:=.inr (.inl ⟨(fun xs (h:jK xs) L hL=>by unfold jK at h;split at h<;>first|exact h.elim|(simp at hL;rcases hL with rfl|rfl;exact h.2;exact h.1▸h.2)),rfl⟩)) qg [.list [ZA .u64],.list [ZA .u64]] pV AR func128 (Da func129 FD) ag6<|fun a ha b hb hp ρ g=>by
 simp only[c_twords,jK,b2i_one,ct,aN,ai,aB]at hp;have As:=g;simp only[AT,ZE]at g;simp only[qg,c_twords,Am,YI,ZE,-eq_self,ct,aN,ai,aB,g];obtain⟨rfl,hl⟩:=hp;obtain⟨Ko,Fp⟩:=g;apply aI<;>intro c0
 .exact ak (Ae c0) Fn
 refine⟨fun ds=>∃n:Nat,ds=[.z (n:Int)]/\n<=a.length,fun ds=>a.length-(dI ds 0).toNat,⟨0,rfl,Nat.zero_le _⟩,?_⟩;intro ρ1 A7 _ Bm;obtain⟨n,Bw,hn⟩:=Bm;simp only[AY,Iv,and_true]at Bw;have Kp:=Bw;have Kq:=kL A7 Ko;have Gk:=kL A7 Fp;simp only[Kq,Gk,Kp,-eq_self];apply aI<;>intro c1;apply aI<;>intro c2
 .exact ak (Ae c2) (by have:=Ae c1;omega)
 apply aI<;>intro c3;apply aI<;>intro c4
 .have GD:n<a.length:=YP.1 (Ae c1);rw[KR GD hl];exact⟨⟨n+1,rfl,GD⟩,by show a.length-(((n+1:Nat):Int)).toNat<a.length-((n:Int)).toNat;omega⟩
 .simp at c4
 .exact ak (Af c3) (by have:=Ae c1;omega)
 .rfl
def nP:List Dt->Prop
 |[.l x0,.l x1]=>let f (a:LL) (b:LL):Prop:=a=b;f x0 x1
 |_=>False
def c_tbegins:Cd:=⟨93,[.one (.sl (kN 8 11111212) 177),.one (.sl (kN 8 11111212) 177),.one (.fn 94)],[.one .bool],rdL fun a=>rdL fun b _=>[.z (Ay ZB)],nP⟩
def U1:E:=(.ltake (.lq (.lq (.lq (.lq (.lq .ln (.cons (.get (.g 1) (.w 2) 3) .nil)) (.cons (.get (.g 1) (.w 2) 4) .nil)) (.cons (.get (.g 1) (.w 2) 5) .nil)) (.cons (.get (.g 1) (.w 2) 6) .nil)) (.cons (.get (.g 1) (.w 2) 7) .nil)) (.get (.g 1) (.w 2) 2))
def U2:E:=(.ltake (.lq (.lq (.lq (.lq (.lq .ln (.cons (.get (.g 0) (.w 2) 3) .nil)) (.cons (.get (.g 0) (.w 2) 4) .nil)) (.cons (.get (.g 0) (.w 2) 5) .nil)) (.cons (.get (.g 0) (.w 2) 6) .nil)) (.cons (.get (.g 0) (.w 2) 7) .nil)) (.get (.g 0) (.w 2) 2))
def nO:Tr:=
(.br (.lt (.len (.g 1)) (.len (.g 0)))
 zlF
(.loop 0 2 [.int .i64] (.cons (.p 0) .nil)
(.br (.lt (.w 2) (.len (.g 0)))
(.br (.lt (.w 2) (.p 0))
.panic
(.br (.lt (.w 2) (.len (.g 1)))
(.br (.eq (.get (.g 0) (.w 2) 0) (.get (.g 1) (.w 2) 0))
(.br (.eq (.get (.g 0) (.w 2) 1) (.get (.g 1) (.w 2) 1))
(.br (.eq (.F .i64 (.len U2)) (.F .i64 (.len U1)))
(.call 0 [.bool] (.N U2 (.N U1 .nil)) 3
(.br (.s 3)
(.next 0 (.cons (.f .add .i64 (.w 2) (.p 1)) .nil))
 zlF))
 zlF)
 zlF)
 zlF)
.panic))
 zlT)))
def adB:cG tZ (FH 0 [c_twords]) [(94,f94,[(999999,[]),(999998,[])],[])] [(4,[.tmpI 15 .i64]++Eb [(6,2),(16,14)]),(999999,[]),(999998,[])] [] 200 f93 c_tbegins.a c_tbegins.r (tp c_tbegins.r) [.list (kN 8 11111212),.list (kN 8 11111212)] nO:=FJ (by kernel_rfl)
def aiq:c_tbegins.Ok ZF:=
 GJ (hl:=.inr (.inr rfl)) nO [.list (kN 8 11111212),.list (kN 8 11111212)] pV (Aq alK AR) func93 (Da func94 FD) adB<|fun a ha b hb hp ρ g=>by
 simp only[c_tbegins,nP,b2i_one,ct,aN,ai,aB]at hp;have As:=g;simp only[AT,ZE]at g;simp only[nO,U2,U1,c_twords,c_tbegins,jK,Am,YI,ZE,-eq_self,ct,aN,ai,aB,g];subst hp;obtain⟨Ko,Fp⟩:=g;apply aI<;>intro c0
 .exact ak (Ae c0) Fn
 refine⟨fun ds=>∃n:Nat,ds=[.z (n:Int)]/\n<=a.length,fun ds=>a.length-(dI ds 0).toNat,⟨0,rfl,Nat.zero_le _⟩,?_⟩;intro ρ1 A7 _ Bm;obtain⟨n,Bw,hn⟩:=Bm;simp only[AY,Iv,and_true]at Bw;have Kp:=Bw;have Kq:=kL A7 Ko;have Gk:=kL A7 Fp;simp only[Kq,Gk,Kp,-eq_self];apply aI<;>intro c1;apply aI<;>intro c2
 .exact ak (Ae c2) (by have:=Ae c1;omega)
 apply aI<;>intro c3;apply aI<;>intro c4;apply aI<;>intro c5;apply aI<;>intro c6;refine⟨?_,?_⟩
 .exact⟨rfl,aeu _ _⟩
 refine anA ?_;apply aI<;>intro c7
 .have GD:n<a.length:=YP.1 (Ae c1);rw[KR GD ha.len];exact⟨⟨n+1,rfl,GD⟩,by show a.length-(((n+1:Nat):Int)).toNat<a.length-((n:Int)).toNat;omega⟩
 .simp at c7
 .simp at c6
 .simp at c5
 .simp at c4
 .exact ak (Af c3) (by have:=Ae c1;omega)
 .rfl
def uC:List Dt->Prop
 |[.z x0,.z x1,.l x2,.l x3,.z x4,.z x5,.z x6,.l x7,.l x8,.z x9]=>let f (a:Out) (b:Out):Prop:=a=b;f ⟨x0,x1,x2,x3,x4⟩ ⟨x5,x6,x7,x8,x9⟩
 |_=>False
def c_tlike:Cd:=⟨11,[.agg kOut,.agg kOut],[.one .bool],rd_Out fun a=>rd_Out fun b _=>[.z (Ay ZB)],uC⟩
def ux:Tr:=
(.br (.eq (.w 0) (.w 5))
(.br (.eq (.len (.g 3)) (.len (.g 8)))
(.call 0 [.bool] (.N (.g 3) (.N (.g 8) .nil)) 10
(.br (.s 10)
(.br (.eq (.w 0) (.p 1))
(.br (.eq (.w 1) (.w 6))
(.u (.j (.leq (.g 2) (.g 7)) .nil))
 zlF)
 zlT)
 zlF))
 zlF)
 zlF)
def ak4:cG tZ (FH 0 [c_tbegins]) [(29,f29,[],[]),(59,f59,[],[]),(30,f30,[],[])] [(999999,[])] [] 200 f11 c_tlike.a c_tlike.r (tp c_tlike.r) (v_Out (v_Out [])) ux:=FJ (by kernel_rfl)
def arj:c_tlike.Ok ZF:=
 GJ (hl:=.inr (.inr rfl)) ux (v_Out (v_Out [])) pV (Aq aiq AR) func11 (Da func29 (Da func59 (Da func30 FD))) ak4<|aiY fun a ha=>aiY fun b hb hp ρ g=>by
 simp only[c_tlike,uC,Ox,b2i_one,ct,aN,ai,aB]at hp;simp only[Ox,AT,ZE]at g;simp only[ux,c_tbegins,c_tlike,nP,Ox,Am,YI,ZE,-eq_self,ct,aN,ai,aB,g];have hp:a=b:=hp;subst hp;apply aI<;>intro c0;apply aI<;>intro c1;refine⟨?_,?_⟩
 .rfl
 refine anA ?_
 .repeat' first|apply aI<;>intro c|exact X3
 .exact X3
 .exact X3
def C4(ρ:Env)(n:Nat):Ty:=⟨ρ.i n,ρ.i (n+1),ρ.i (n+2),ρ.i (n+3),ρ.i (n+4),ρ.i (n+5),ρ.i (n+6),ρ.i (n+7),ρ.i (n+8)⟩
def Dz(ρ:Env)(n:Nat):Sta:=⟨C4 ρ n,C4 ρ (n+9),C4 ρ (n+18),C4 ρ (n+27),C4 ρ (n+36),C4 ρ (n+45),C4 ρ (n+54),C4 ρ (n+63),C4 ρ (n+72),C4 ρ (n+81),C4 ρ (n+90),C4 ρ (n+99),C4 ρ (n+108),C4 ρ (n+117),C4 ρ (n+126),C4 ρ (n+135),C4 ρ (n+144),C4 ρ (n+153),C4 ρ (n+162)⟩
section
variable (ρ:Env)
def avg(n:Nat)(t:E):(E.vs n 171 t).D ρ=d_Sta (Dz ρ n) (t.D ρ):=by kernel_rfl
def Wu(n:Nat):(E.vs n 171 .nil).L ρ=BG (Dz ρ n):=by kernel_rfl
def SP(l i t:E):(E.gs l i 1 171 t).D ρ=d_Sta (ap (l.R ρ) (i.I ρ)) (t.D ρ):=by kernel_rfl
def au7(l i:E):(E.gs l i 1 171 .nil).L ρ=BG (ap (l.R ρ) (i.I ρ)):=by kernel_rfl
def avf(n:Nat)(t:E):(E.vs n 9 t).D ρ=d_Ty (C4 ρ n) (t.D ρ):=by kernel_rfl
def PA(e l i t:E):(E.tg e l i 1 9 t).D ρ=d_Ty (Al (ap (l.R ρ) (i.I ρ)) (e.I ρ)) (t.D ρ):=by kernel_rfl
def Wv(e l i t:E)(m:Nat):(E.rg e (E.vs m 9 .nil) (E.gs l i 1 99 .nil) (E.gs l i 100 72 t)).D ρ=d_Sta (BU (ap (l.R ρ) (i.I ρ)) (e.I ρ) (C4 ρ m)) (t.D ρ):=by kernel_rfl
def awP(e t:E)(m n:Nat):(E.rg e (E.vs m 9 .nil) (E.vs n 99 .nil) (E.vs (n+99) 72 t)).D ρ=d_Sta (BU (Dz ρ n) (e.I ρ) (C4 ρ m)) (t.D ρ):=by kernel_rfl
def awL(e:E)(m n:Nat):(E.rg e (E.vs m 9 .nil) (E.vs n 99 .nil) (E.vs (n+99) 72 .nil)).L ρ=BG (BU (Dz ρ n) (e.I ρ) (C4 ρ m)):=by kernel_rfl
def avh(e l i t:E)(m k:Nat):(E.rg e (E.vs m 9 .nil) (E.rg e (E.vs k 9 .nil) (E.gs l i 1 99 .nil) .nil) (E.gs l i 100 72 t)).D ρ=d_Sta (BU (BU (ap (l.R ρ) (i.I ρ)) (e.I ρ) (C4 ρ k)) (e.I ρ) (C4 ρ m)) (t.D ρ):=by kernel_rfl
def avi(l i:E)(n:Nat):(E.vs n 9 (.zr 45 (.gs l i 55 117 .nil))).D ρ=d_Sta {ap (l.R ρ) (i.I ρ)with r0:=C4 ρ n,r1:=tnil,r2:=tnil,r3:=tnil,r4:=tnil,r5:=tnil} []:=by kernel_rfl
end
def Cy(f:Nat->Int)(n:Nat):Ty:=⟨f n,f (n+1),f (n+2),f (n+3),f (n+4),f (n+5),f (n+6),f (n+7),f (n+8)⟩
def Pj(f:Nat->Int):Sta:=⟨Cy f 0,Cy f 9,Cy f 18,Cy f 27,Cy f 36,Cy f 45,Cy f 54,Cy f 63,Cy f 72,Cy f 81,Cy f 90,Cy f 99,Cy f 108,Cy f 117,Cy f 126,Cy f 135,Cy f 144,Cy f 153,Cy f 162⟩
def yl(m:Nat)(f:Nat->Int):Nat->Int:=fun i=>bif Nat.blt i m then f i else 0
def ac3{f g:Nat->Int}(h:∀i,i<m->f i=g i):yl m f=yl m g:=by
 funext i;unfold yl;cases hb:Nat.blt i m with
 |false=>rfl
 |true=>exact h i (by simpa[Nat.blt_eq]using hb)
def pW(f:Nat->Int):Pj (yl 171 f)=Pj f:=by kernel_rfl
def rX(f:Nat->Int):Cy (yl 9 f) 0=Cy f 0:=by kernel_rfl
def aa5{f g:Nat->Int}(h:∀m,m<171->f m=g m):Pj f=Pj g:=by rw[<-pW f,<-pW g,ac3 h]
def afk{f g:Nat->Int}(h:∀m,m<9->f m=g m):Cy f 0=Cy g 0:=by rw[<-rX f,<-rX g,ac3 h]
def yT(S:Sta)(r:List Dt):Pj (fun m=>dI (d_Sta S r) m)=S:=by kernel_rfl
def T4(S:Ty)(r:List Dt):Cy (fun m=>dI (d_Ty S r) m) 0=S:=by kernel_rfl
def ajd{r r':List Dt}(h:d_Sta a r=d_Sta b r'):a=b:=by rw[<-yT a r,<-yT b r',h]
def amm{a b:Ty}{r r':List Dt}(h:d_Ty a r=d_Ty b r'):a=b:=by rw[<-T4 a r,<-T4 b r',h]
def Je:List CK->Nat->Bool
 |.int _::_,0=>ZB
 |.int _::ks,m+1=>Je ks m
 |_,_=>ZC
def rb{ρ:Env}{ds:List Dt}{v0:Nat}:∀(ks:List CK) (n m:Nat),Je ks m=ZB->eqs ρ ds v0 n ks->ρ.i (v0+(n+m))=dI ds (n+m)
 |.int k::ks,n,0,_,h=>h.1
 |.int k::ks,n,m+1,hk,h=>by have:=rb ks (n+1) m hk h.2;rw[show n+(m+1)=n+1+m by omega];exact this
def vd:∀(a b:List CK) (m:Nat),Je a m=ZB->Je (a++b) m=ZB
 |.int _::_,_,0,_=>rfl
 |.int _::a,b,m+1,h=>vd a b m h
def atJ:∀m,m<171->Je kSta m=ZB:=by decide +kernel
def atI:∀m,m<9->Je kTy m=ZB:=by decide +kernel
def Wi{r:List Dt}(h:eqs ρ (d_Sta S r) v0 0 (kSta++ks)):Dz ρ v0=S:=by
 have e:=aa5 (f:=fun m=>ρ.i (v0+m)) (g:=fun m=>dI (d_Sta S r) m) (fun m hm=>by
  have:=rb _ 0 m (vd _ ks m (atJ m hm)) h;rw[be]at this;exact this)
 rw[yT]at e;exact e
def auI{S:Ty}{r:List Dt}(h:eqs ρ (d_Ty S r) v0 0 (kTy++ks)):C4 ρ v0=S:=by
 have e:=afk (f:=fun m=>ρ.i (v0+m)) (g:=fun m=>dI (d_Ty S r) m) (fun m hm=>by
  have:=rb _ 0 m (vd _ ks m (atI m hm)) h;rw[be]at this;exact this)
 rw[T4]at e;exact e
def auJ{e:Int}(h:eqs ρ (d_Sta S [.z e]) v0 0 (kSta++[.int .i64])):ρ.i (v0+171)=e:=by have:=rb _ 0 171 XY h;exact this
def auH{S:Ty}{e:Int}(h:eqs ρ (d_Ty S [.z e]) v0 0 (kTy++[.int .i64])):ρ.i (v0+9)=e:=by have:=rb _ 0 9 XY h;exact this
def auK{r:List Dt}(h:eqs ρ (d_Sta S r) v0 0 kSta):Dz ρ v0=S:=Wi (ks:=[]) (by rw[YO];exact h)
def xW{S:Ty}{r:List Dt}(h:eqs ρ (d_Ty S r) v0 0 kTy):C4 ρ v0=S:=auI (ks:=[]) (by rw[YO];exact h)
def Rx(h:Ag n ρ ρ')(hm:m+9<=n):C4 ρ' m=C4 ρ m:=by have e:=afk (f:=fun i=>ρ'.i (m+i)) (g:=fun i=>ρ.i (m+i)) (fun i hi=>((h (m+i) Fn).1).symm);exact e
def afF(h:Ag n ρ ρ')(hm:m+171<=n):Dz ρ' m=Dz ρ m:=by have e:=aa5 (f:=fun i=>ρ'.i (m+i)) (g:=fun i=>ρ.i (m+i)) (fun i hi=>((h (m+i) Fn).1).symm);exact e
section
variable {sp:Spec}{G:Env->E->Prop}{ρ:Env}{I:Nat->List Dt->Prop}
def aF{t:Tr}(xs:List Dt)(hD:args.D ρ=xs)(hp:sp.pre key xs)(h:eqs ρ (sp.F key xs) v0 0 ks->t.asks sp G ρ I):(Tr.call key ks args v0 t).asks sp G ρ I:=by subst hD;exact⟨hp,h⟩
def aQ{lv:Nat}{P:List Dt->Prop}(h:P (args.D ρ)):(Tr.next lv args).asks sp G ρ (GQ I lv P):=by show GQ I lv P lv _;rw[iL];exact h
def ahQ{lv lv':Nat}{P:List Dt->Prop}(hn:lv≠lv')(h:(Tr.next lv args).asks sp G ρ I):(Tr.next lv args).asks sp G ρ (GQ I lv' P):=by show GQ I lv' P lv _;rw[pR _ _ hn];exact h
end
def Ww(ρ:Env)(l i t:E):(E.ins l i t).D ρ=d_Ins (ab (l.R ρ) (i.I ρ)) (t.D ρ):=by kernel_rfl
def E1(x:Ins):LL:=[[x.k,x.op,x.w,x.sz,Ay x.br,x.d,x.s,x.off,x.imm]]
def Wt(ρ:Env)(l i:E):(E.lq .ln (.ins l i .nil)).R ρ=E1 (ab (l.R ρ) (i.I ρ)):=by kernel_rfl
def aiz(x:Ins):ab (E1 x) 0=x:=by show(⟨x.k,x.op,x.w,x.sz,Ay x.br==1,x.d,x.s,x.off,x.imm⟩:Ins)=x;rw[b2i_one]
def KS(w n:E):E:=.f .or .u64 w (.f .shl .u64 (.p 1) n)
def NW(key:Nat)(n:E)(S:E->E)(w T g:E)(v:Nat)(k:E->E->E->Tr):Tr:=
 .call key (kSta++[.int .i64]) (.gs T n 1 171 (S .nil)) v
  (.br (.leq (.lq .ln (.vs v 171 .nil)) (.lq .ln (.gs T n 1 171 .nil)))
   (k w T g)
   (k (KS w n) (.lput T n (.j (.tt ZB) (.vs v 171 .nil))) (.lset g n 0 (.f .add .i64 (.get g n 0) (.p 1)))))
def Fu(n:E)(S:E->E)(w T g:E)(v:Nat)(k:E->E->E->Tr):Tr:=
 .br (.lt n (.p 0)) .panic
  (.br (.lt n (.p 64))
   (.br (.lt n (.len T))
    (.br (.getb T n 0)
     (.br (.lt n (.len g))
      (.br (.lt (.p 8) (.get g n 0)) (NW 17 n S w T g v k) (NW 16 n S w T g v k))
      (.stuck 54))
     (k (KS w n) (.lput T n (.j (.tt ZB) (S .nil))) g))
    (.stuck 270))
   .panic)
section
variable {sp:Spec}{G:Env->E->Prop}{ρ:Env}{I:Nat->List Dt->Prop}{p:Prog}{r:VR}{n w T g:E}{S:E->E}{s:Sta}{v:Nat}{k:E->E->E->Tr}
def xk{b:Bool}(hF:∀a c:Sta,sp.F key (d_Sta a (d_Sta c []))=d_Sta (iQ b a c) [.z (Fy a c)])(hP:∀xs,sp.pre key xs)(hw:w.I ρ=r.w)(hT:T.R ρ=r.T)(hg:g.R ρ=r.g){m:Int}(hn:n.I ρ=m)(hS:∀t:E,(S t).D ρ=d_Sta s (t.D ρ))(h1:gt r.T m 0=1)(h8:decide (8<gt r.g m 0)=b)(hk:∀w' T' g':E,w'.I ρ=(AN r (m,s)).w->T'.R ρ=(AN r (m,s)).T->g'.R ρ=(AN r (m,s)).g->(k w' T' g').asks sp G ρ I):(NW key n S w T g v k).asks sp G ρ I:=by
 refine⟨hP _,fun e=> ?_⟩;have e0:(E.gs T n 1 171 (S .nil)).D ρ=d_Sta (ap r.T m) (d_Sta s []):=by rw[SP,hT,hn,hS];rfl
 rw[e0,hF]at e;have eS:=Wi e;have ej:iQ b (ap r.T m) s=IN r (m,s):=by unfold IN;rw[h8]
 rw[ej]at eS;have L1:(E.vs v 171 .nil).L ρ=BG (IN r (m,s)):=by rw[Wu,eS]
 have L2:(E.gs T n 1 171 .nil).L ρ=BG (ap r.T m):=by rw[au7,hT,hn]
 have hB:(E.leq (.lq .ln (.vs v 171 .nil)) (.lq .ln (.gs T n 1 171 .nil))).B ρ=ZB↔BG (IN r (m,s))=BG (ap r.T m):=by simp only[E.B,E.R,ZM,L1,L2,cb,AY,and_true]
 refine⟨fun c=> ?_,fun c=> ?_⟩
 .have hv:AN r (m,s)=r:=by unfold AN;rw[ae h1,ae (hB.1 c)]
  exact hk _ _ _ (by rw[hv];exact hw) (by rw[hv];exact hT) (by rw[hv];exact hg)
 .have hc:¬BG (IN r (m,s))=BG (ap r.T m):=fun e=>by rw[hB.2 e]at c;cases c
  have hv:AN r (m,s)=⟨GR r.w m,r.T.set m.toNat (1::BG (IN r (m,s))),st r.g m 0 (Ac .add .i64 (gt r.g m 0) 1)⟩:=by unfold AN;rw[ae h1,aa hc]
  refine hk _ _ _ (by rw[hv];simp only[KS,E.I,hw,hn];rfl) ?_ ?_
  .rw[hv];simp only[E.R,E.L,E.B,hT,hn,L1];rfl
  .rw[hv];simp only[E.R,E.I,hg,hn]
def xj(hF:∀a c:Sta,sp.F 17 (d_Sta a (d_Sta c []))=d_Sta (iQ ZB a c) [.z (Fy a c)])(Bv:∀a c:Sta,sp.F 16 (d_Sta a (d_Sta c []))=d_Sta (iQ ZC a c) [.z (Fy a c)])(hP:∀xs,sp.pre 17 xs)(hP':∀xs,sp.pre 16 xs)(h:VI p r)(hw:w.I ρ=r.w)(hT:T.R ρ=r.T)(hg:g.R ρ=r.g){m:Int}(hn:n.I ρ=m)(hm:0<=m/\m<(p.l.length:Int))(hl:p.l.length<=64)(hS:∀t:E,(S t).D ρ=d_Sta s (t.D ρ))(hL:(S .nil).L ρ=BG s)(hk:∀w' T' g':E,w'.I ρ=(AN r (m,s)).w->T'.R ρ=(AN r (m,s)).T->g'.R ρ=(AN r (m,s)).g->(k w' T' g').asks sp G ρ I):(Fu n S w T g v k).asks sp G ρ I:=by
 have lt:∀z:Int,(E.lt n (.p z)).B ρ=decide (m<z):=fun z=>by simp only[E.B,E.I,hn]
 refine⟨fun c=> ?_,fun _=>⟨fun _=>⟨fun _=>⟨fun c1=>⟨fun _=>⟨fun c2=> ?_,fun c2=> ?_⟩,fun c=> ?_⟩,fun c1=> ?_⟩,fun c=> ?_⟩,fun c=> ?_⟩⟩
 .rw[lt]at c;have:=Ae c;exact ak hm.1 Fn
 .have h1:gt r.T m 0=1:=by
   simp only[E.B,hT,hn,cb]at c1;exact c1
  have h8:decide (8<gt r.g m 0)=ZB:=by simp only[E.B,E.I,hg,hn]at c2;exact c2
  exact xk hF hP hw hT hg hn hS h1 h8 hk
 .have h1:gt r.T m 0=1:=by
   simp only[E.B,hT,hn,cb]at c1;exact c1
  have h8:decide (8<gt r.g m 0)=ZC:=by simp only[E.B,E.I,hg,hn]at c2;exact c2
  exact xk Bv hP' hw hT hg hn hS h1 h8 hk
 .simp only[E.B,E.I,hg,hn,h.g]at c;have:=Af c;omega
 .have h1:¬gt r.T m 0=1:=by
   simp only[E.B,hT,hn]at c1;intro e;rw[e]at c1;cases c1
  have hv:AN r (m,s)=⟨GR r.w m,r.T.set m.toNat (1::BG s),r.g⟩:=by unfold AN;rw[aa h1]
  refine hk _ _ _ (by rw[hv];simp only[KS,E.I,hw,hn];rfl) ?_ (by rw[hv];exact hg);rw[hv];simp only[E.R,E.L,E.B,hT,hn,hL];rfl
 .simp only[E.B,E.I,hT,hn,h.T]at c;have:=Af c;omega
 .rw[lt]at c;have:=Af c;omega
end
def OF:List C:=Fv D5 11++(Fv D5 8++[])
def aiT:Tryz.prog.eqGuardType Tryz.prog.depth 67=ZC:=by kernel_rfl
def avG:Kl ZF 7 64 (Fv D5 11):=Kl.array (d:=6) (fun vs hv=>V2 vs hv) underlying64 (by kernel_rfl) (by kernel_rfl)
def klA8:Kl ZF 7 65 (Fv D5 8):=Kl.array (d:=6) (fun vs hv=>V2 vs hv) underlying65 (by kernel_rfl) (by kernel_rfl)
def atG:Kl ZF 8 67 OF:=Kl.struct (KlSeq.cons avG (by rfl) (by kernel_rfl) (KlSeq.cons klA8 (by rfl) (by kernel_rfl) (KlSeq.nil _ _ _))) underlying67 (by kernel_rfl) (by kernel_rfl)
def auE(vs:List Value)(hv:aD vs OF):(Value.agg vs.toArray).formed ZF 67=ZB:=aiX underlying67 (by kernel_rfl) vs hv
def aoa(vs us:List Value)(hv:aD vs OF)(hu:aD us OF)(w:World):(Op.equal 67 (.agg vs.toArray) (.agg us.toArray)).run ZF w=.ok (CB vs us) w:=fU (by kernel_rfl) auE 8 (fun vs hv=>atG vs hv) vs us hv hu w
def Un{p:Prop}(k:q2)(h:p->q=q2:=by intro e;(try simp only[e,ct,aN,ai,aB,-eq_self]);rfl):p->q:=fun e=>(h e).symm▸k
def yF:List (Nat×TI):=[(2,DA),
 (3,C1),
 (4,EM),
 (22,vT),
 (24,vS),
 (36,Pk),
 (39,hZ),
 (41,rK),
 (43,hJ),
 (57,lm),
 (59,oQ),
 (61,iM),
 (63,yL),
 (110,Rz),
 (143,amR)]
def lX:∀t i,(t,i)∈yF->TIok ZF t i:=bK (Ed (z:=lR) ⟨lb,ij⟩<|Ed (z:=FC) ⟨Mu,qW⟩<|Ed (z:=D5) ⟨Mr,qV⟩ Ch) Ch (by kernel_rfl)
def zn:List Dt->Prop
 |[.z x0]=>let f (n:Int):Prop:=1<=n/\n<=8;f x0
 |_=>False
def c_vcnt:Cd:=⟨103,[.one (.int .u64)],[.one (.int .i64)],rdZ fun n _=>[.z (Cf n)],zn⟩
def VB:E:=(.f .add .u64 (.f .and .u64 (.f .shr .u64 (.w 0) (.p 1)) (.p 6148914691236517205)) (.f .and .u64 (.w 0) (.p 6148914691236517205)))
def VC:E:=(.f .add .u64 (.f .and .u64 (.f .shr .u64 VB (.p 2)) (.p 3689348814741910323)) (.f .and .u64 VB (.p 3689348814741910323)))
def UY:E:=(.f .and .u64 (.f .add .u64 (.f .shr .u64 VC (.p 4)) VC) (.p 1085102592571150095))
def UZ:E:=(.f .add .u64 UY (.f .shr .u64 UY (.p 8)))
def U0:E:=(.f .add .u64 UZ (.f .shr .u64 UZ (.p 16)))
def zi:Tr:=
(.u (.cons (.f .and .i64 (.F .i64 (.f .add .u64 U0 (.f .shr .u64 U0 (.p 32)))) (.p 127)) .nil))
def aqd:cG yF (FH 0 []) [(148,f148,[],[])] [] [] 200 f103 c_vcnt.a c_vcnt.r (tp c_vcnt.r) [.int .u64] zi:=FJ (by kernel_rfl)
def atX:c_vcnt.Ok ZF:=
 GJ zi [.int .u64] lX AR func103 (Da func148 FD) aqd<|fun n hn hp ρ g=>by
 simp only[c_vcnt,zn,b2i_one,ct,aN,ai,aB]at hp;simp only[AT,ZE]at g;simp only[zi,U0,UZ,UY,VC,VB,c_vcnt,Am,YI,ZE,-eq_self,ct,aN,ai,aB,g]
 ·(rcases WR hp with rfl|rfl|rfl|rfl|rfl|rfl|rfl|rfl<;>rfl)
def wW:List Dt->Prop
 |[.z x0,.l x1,.z x2,.z x3,.z x4,.z x5,.z x6,.z x7,.z x8,.z x9,.z Iq,.z Jq,.z x12]=>let f (p:Prog) (t:Ty) (off:Int) (size:Int):Prop:=p.l.length<=maxLen;f ⟨x0,x1⟩ ⟨x2,x3,x4,x5,x6,x7,x8,x9,Iq⟩ Jq x12
 |_=>False
def c_vwi:Cd:=⟨66,[.agg kProg,.agg kTy,.one (.int .i64),.one (.int .i64)],[.one .bool],rd_Prog fun p=>rd_Ty fun t=>rdZ fun off=>rdZ fun size _=>[.z (Ay (aG p.ctx t off size))],wW⟩
def VA:E:=(.f .add .i64 (.f .add .i64 (.w 10) (.w 11)) (.w 12))
def Ug:Tr:=
(.br (.eq (.w 2) (.p 2))
(.br (.lt (.w 12) (.p 1))
 zlF
(.br (.lt (.p 8) (.w 12))
 zlF
(.call 0 [.int .i64] (.cons (.F .u64 (.w 12)) .nil) 13
(.br (.eq (.w 13) (.p 1))
(.br (.lt (.w 11) (.p (-1048576)))
 zlF
(.br (.lt (.p 1048576) (.w 11))
 zlF
(.br (.lt (.w 9) (.p (-1048576)))
 zlF
(.br (.lt (.p 1048576) (.w 9))
 zlF
(.br (.lt (.w 10) (.p (-1048576)))
 zlF
(.br (.lt (.p 1048576) (.w 10))
 zlF
(.br (.lt (.w 10) (.w 9))
 zlF
(.br (.lt (.f .add .i64 (.w 9) (.w 11)) (.p 0))
 zlF
(.u (.j (.not (.lt (.w 0) VA)) .nil))))))))))
 zlF))))
(.br (.eq (.w 2) (.p 3))
(.br (.lt (.w 12) (.p 1))
 zlF
(.br (.lt (.p 8) (.w 12))
 zlF
(.call 0 [.int .i64] (.cons (.F .u64 (.w 12)) .nil) 13
(.br (.eq (.w 13) (.p 1))
(.br (.lt (.w 11) (.p (-1048576)))
 zlF
(.br (.lt (.p 1048576) (.w 11))
 zlF
(.br (.lt (.w 9) (.p (-1048576)))
 zlF
(.br (.lt (.p 1048576) (.w 9))
 zlF
(.br (.lt (.w 10) (.p (-1048576)))
 zlF
(.br (.lt (.p 1048576) (.w 10))
 zlF
(.br (.lt (.w 10) (.w 9))
 zlF
(.br (.lt (.f .add .i64 (.w 9) (.w 11)) (.p 0))
 zlF
(.u (.j (.not (.lt (.p 64) VA)) .nil))))))))))
 zlF))))
 zlF))
def as2:cG yF (FH 0 [c_vcnt]) [(63,f63,[],[]),(102,f102,[],[])] [(999997,[])] [] 200 f66 c_vwi.a c_vwi.r (tp c_vwi.r) (v_Prog (v_Ty [.int .i64,.int .i64])) Ug:=FJ (by kernel_rfl)
def avM:c_vwi.Ok ZF:=
 GJ (hl:=.inr (.inl ⟨(fun xs (h:wW xs) L hL=>by unfold wW at h;split at h<;>first|exact h.elim|(simp at hL;subst hL;exact h)),rfl⟩)) Ug (v_Prog (v_Ty [.int .i64,.int .i64])) lX (Aq atX AR) func66 (Da func63 (Da func102 FD)) as2<|fQ fun p hp=>bP fun t ht=>fun off Nm size IE hp ρ g=>by
 simp only[c_vwi,wW,df,Bo,b2i_one,ct,aN,ai,aB]at hp;simp only[df,Bo,AT,ZE]at g;simp only[Ug,VA,c_vcnt,c_vwi,zn,df,Bo,Am,YI,ZE,-eq_self,ct,aN,ai,aB,g];apply aI<;>intro c0;apply aI<;>intro c1
 .exact LT
 apply aI<;>intro c2
 .exact LT
 refine⟨?_,?_⟩
 ·(show 1<=ZG .u64 size/\IntKind.u64.wrap size<=8;rw[bg];have:=Af c1;have:=Af c2;omega)
 refine Un ?_
 .repeat' first|apply aI<;>intro c|exact LT
 apply aI<;>intro Cp;apply aI<;>intro C9
 .exact LT
 apply aI<;>intro DE
 .exact LT
 refine⟨?_,?_⟩
 ·(show 1<=ZG .u64 size/\IntKind.u64.wrap size<=8;rw[bg];have:=Af C9;have:=Af DE;omega)
 refine Un ?_
 .repeat' first|apply aI<;>intro c|exact LT
 .exact LT
def qm:List Dt->Prop
 |[.z x0,.l x1,.l x2,.z x3,.z x4,.z x5,.z x6,.z x7,.z x8,.z x9,.z Iq,.z Jq]=>let f (p:Prog) (x:LL) (t:Ty):Prop:=x.length=1/\p.l.length<=maxLen;f ⟨x0,x1⟩ x2 ⟨x3,x4,x5,x6,x7,x8,x9,Iq,Jq⟩
 |_=>False
def c_vacc:Cd:=⟨36,[.ptr kProg,.one (.el (kN 9 220090000) 41),.agg kTy],[.one (.int .i64),.one (.int .i64),.one .bool],rd_Prog fun p=>rdL fun x=>rd_Ty fun t _=>[.z (Ac .add .i64 t.lo (ab x 0).off),.z (Ac .add .i64 t.hi (ab x 0).off),.z (Ay (aG p.ctx t (ab x 0).off (ab x 0).sz))],qm⟩
def agA:Tr:=
(.br (.lt (.p 0) (.len (.g 2)))
(.call 0 [.bool] (.cons (.w 0) (.N (.g 1) (.vs 3 9 (.cons (.get (.g 2) (.p 0) 7) (.cons (.F .i64 (.get (.g 2) (.p 0) 3)) .nil))))) 12
(.u (.cons (.f .add .i64 (.w 10) (.get (.g 2) (.p 0) 7)) (.cons (.f .add .i64 (.w 11) (.get (.g 2) (.p 0) 7)) (.j (.s 12) .nil)))))
(.stuck 54))
def at3:c_vacc.Ok ZF:=
 A4 (hl:=.inr (.inl ⟨(fun xs (h:qm xs) L hL=>by unfold qm at h;split at h<;>first|exact h.elim|(simp at hL;rcases hL with rfl|rfl;exact h.2;rw[h.1];unfold maxLen;omega)),rfl⟩)) agA (v_Prog (.list (kN 9 220090000)::v_Ty [])) lX (Aq avM AR) func36<|fQ fun p hp=>fun x hx=>bP fun t ht hp ρ g=>by
 simp only[c_vacc,qm,df,Bo,b2i_one,ct,aN,ai,aB]at hp;simp only[df,Bo,AT,ZE]at g;simp only[agA,c_vwi,c_vacc,wW,df,Bo,Am,YI,ZE,-eq_self,ct,aN,ai,aB,g];apply aI<;>intro c0;refine⟨?_,?_⟩
 .exact hp.2
 refine Un ?_
 ·(rw[aup (Wh (fun r hr=>qv (hx.row r hr) (c:=3) (k:=ZA .i8) rfl) 0)];rfl)
 ·(rw[hp.1]at c0;simp at c0)
def c_vsca:Cd:=⟨34,[.agg kSc],[.agg kTy],rd_Sc fun s _=>d_Ty (ty 1 s 0 0) [],T0⟩
def agq:Tr:=
(.u (.cons (.p 1) (.vs 0 6 (.cons (.p 0) (.cons (.p 0) .nil)))))
def atS:c_vsca.Ok ZF:=
 A4 agq (v_Sc []) lX AR func34<|dV fun s hs hp ρ g=>by
 simp only[A5,Bo,AT,ZE]at g;simp only[agq,c_vsca,A5,Bo,Am,YI,ZE,-eq_self,ct,aN,ai,aB,g]
 .rfl
def qJ{p:Prop}(k:q2)(h:p->q=q2:=by intro e;(try simp only[e,ct,aN,ai,aB,-eq_self]);rfl):p->q:=fun e=>(h e).symm▸k
def apG:List (Nat×TI):=[(2,DA),
 (3,C1),
 (39,hZ),
 (43,hJ),
 (57,lm),
 (59,oQ),
 (61,iM),
 (63,yL),
 (64,OI),
 (65,OH),
 (67,SD)]
def pS:∀t i,(t,i)∈apG->TIok ZF t i:=bK (Ed (z:=FC) ⟨Mu,qW⟩<|Ed (z:=D5) ⟨Mr,qV⟩ Ch) Ch (by kernel_rfl)
def c_tacc:Cd:=⟨68,[.agg kSta,.one (.int .i64),.one (.int .i64),.one (.int .i64)],[.one .bool],rd_Sta fun s=>rdZ fun lo=>rdZ fun hi=>rdZ fun size _=>[.z (Ay (BL s lo hi size))],T0⟩
def agG:Tr:=
(.br (.eq (.w 173) (.p 1))
(.br (.lt (.w 171) (.p 0))
 zlF
(.br (.lt (.w 172) (.w 171))
 zlF
(.br (.lt (.f .sub .i64 (.p 64) (.w 173)) (.w 172))
 zlF
(.call 0 [.bool] (.vs 0 171 .nil) 174
(.u (.j (.s 174) .nil))))))
(.br (.eq (.w 173) (.p 2))
(.br (.lt (.w 171) (.p 0))
 zlF
(.br (.lt (.w 172) (.w 171))
 zlF
(.br (.lt (.f .sub .i64 (.p 64) (.w 173)) (.w 172))
 zlF
(.call 0 [.bool] (.vs 0 171 .nil) 174
(.u (.j (.s 174) .nil))))))
(.br (.eq (.w 173) (.p 4))
(.br (.lt (.w 171) (.p 0))
 zlF
(.br (.lt (.w 172) (.w 171))
 zlF
(.br (.lt (.f .sub .i64 (.p 64) (.w 173)) (.w 172))
 zlF
(.call 0 [.bool] (.vs 0 171 .nil) 174
(.u (.j (.s 174) .nil))))))
(.br (.eq (.w 173) (.p 8))
(.br (.lt (.w 171) (.p 0))
 zlF
(.br (.lt (.w 172) (.w 171))
 zlF
(.br (.lt (.f .sub .i64 (.p 64) (.w 173)) (.w 172))
 zlF
(.call 0 [.bool] (.vs 0 171 .nil) 174
(.u (.j (.s 174) .nil))))))
 zlF))))
def anK:c_tacc.Ok ZF:=
 A4 agG (v_Sta [.int .i64,.int .i64,.int .i64]) pS (Aq UA AR) func68<|fE fun s hs=>fun lo I6 hi I4 size IE hp ρ g=>by
 simp only[c_tacc,de,iU,rdZ,rdB,rdL];simp only[js,Bo,AT,ZE]at g;simp(maxSteps:=10000000) only[agG,Lv,c_tmay,rdZ,rdB,rdL,c_tacc,js,Bo,Am,YI,ZE,-eq_self,ct,aN,ai,aB,g];apply aI<;>intro c0;apply aI<;>intro c1
 .rw[ur c1]
 apply aI<;>intro c2
 .rw[uu c2]
 apply aI<;>intro c3
 .rw[pf c3]
 refine qJ ?_
 .rw[ut (.inl c0) c1 c2,c3,Bool.not_false,Bool.true_and]
 apply aI<;>intro c4;apply aI<;>intro c5
 .rw[ur c5]
 apply aI<;>intro c6
 .rw[uu c6]
 apply aI<;>intro c7
 .rw[pf c7]
 refine qJ ?_
 .rw[ut (.inr (.inl c4)) c5 c6,c7,Bool.not_false,Bool.true_and]
 apply aI<;>intro c8;apply aI<;>intro c9
 .rw[ur c9]
 apply aI<;>intro CA
 .rw[uu CA]
 apply aI<;>intro DD
 .rw[pf DD]
 refine qJ ?_
 .rw[ut (.inr (.inr (.inl c8))) c9 CA,DD,Bool.not_false,Bool.true_and]
 apply aI<;>intro Cp;apply aI<;>intro C9
 .rw[ur C9]
 apply aI<;>intro DE
 .rw[uu DE]
 apply aI<;>intro DI
 .rw[pf DI]
 refine qJ ?_
 .rw[ut (.inr (.inr (.inr Cp))) C9 DE,DI,Bool.not_false,Bool.true_and]
 .rw[af8 c0 c4 c8 Cp]
def c_texa:Cd:=⟨69,[.one (.int .i64),.one (.int .i64),.one (.int .i64)],[.one (.int .i64),.one .bool],rdZ fun lo=>rdZ fun hi=>rdZ fun size _=>[.z (Ac .quo .i64 lo 8),.z (Ay (DR lo hi size))],T0⟩
def Vz:Tr:=(.u (.cons (.f .quo .i64 (.w 0) (.p 8)) (.j (.tt ZC) .nil)))
def agF:Tr:=
(.br (.eq (.w 2) (.p 8))
(.br (.eq (.w 0) (.w 1))
(.u (.cons (.f .quo .i64 (.w 0) (.p 8)) (.j (.eq (.f .rem .i64 (.w 0) (.p 8)) (.p 0)) .nil)))
 Vz)
 Vz)
def anJ:c_texa.Ok ZF:=
 A4 agF [.int .i64,.int .i64,.int .i64] pS AR func69<|fun lo I6 hi I4 size IE hp ρ g=>by
 simp only[AT,ZE]at g;simp only[agF,Vz,c_texa,Am,YI,ZE,-eq_self,ct,aN,ai,aB,g];apply aI<;>intro c0;apply aI<;>intro c1
 .unfold DR;rw[c0,c1];rfl
 .rw[apW c1]
 .rw[apX c0]
def c_tload:Cd:=⟨38,[.agg kSta,.one (.int .i64),.one (.int .i64),.one (.int .i64)],[.agg kTy,.one (.int .i64)],rd_Sta fun s=>rdZ fun lo=>rdZ fun hi=>rdZ fun size _=>d_Ty (oR s lo hi size) [.z (qa s lo hi size)],T0⟩
def abw:Tr:=
(.call 0 [.bool] (.vs 0 174 .nil) 174
(.br (.s 174)
(.call 1 [.int .i64,.bool] (.vs 171 3 .nil) 175
(.br (.s 176)
(.br (.eq (.w 175) (.p 0))
(.u (.vs 99 9 (.cons (.p 0) .nil)))
(.br (.eq (.w 175) (.p 1))
(.u (.vs 108 9 (.cons (.p 0) .nil)))
(.br (.eq (.w 175) (.p 2))
(.u (.vs 117 9 (.cons (.p 0) .nil)))
(.br (.eq (.w 175) (.p 3))
(.u (.vs 126 9 (.cons (.p 0) .nil)))
(.br (.eq (.w 175) (.p 4))
(.u (.vs 135 9 (.cons (.p 0) .nil)))
(.br (.eq (.w 175) (.p 5))
(.u (.vs 144 9 (.cons (.p 0) .nil)))
(.br (.eq (.w 175) (.p 6))
(.u (.vs 153 9 (.cons (.p 0) .nil)))
(.br (.eq (.w 175) (.p 7))
(.u (.vs 162 9 (.cons (.p 0) .nil)))
.panic))))))))
(.call 2 (kSc) (.cons (.w 173) .nil) 177
(.u (.cons (.p 1) (.vs 177 6 (.zs [0,0,0] .nil)))))))
(.u (.zs [0,0,0,0,0,0,0,0,0,2] .nil))))
def ari:c_tload.Ok ZF:=
 A4 abw (v_Sta [.int .i64,.int .i64,.int .i64]) pS (Aq anK<|Aq anJ<|Aq Wm AR) func38<|fE fun s hs=>fun lo I6 hi I4 size IE hp ρ g=>by
 simp only[c_tload,de,iU,rdZ,rdB,rdL];simp only[js,Bo,A5,AT,ZE]at g;simp(maxSteps:=10000000) only[abw,Lv,c_tacc,c_texa,c_vby,rdZ,rdB,rdL,c_tload,js,Bo,A5,Am,YI,ZE,-eq_self,ct,aN,ai,aB,g];refine qJ ?_;apply aI<;>intro c0;refine qJ ?_;apply aI<;>intro c1;apply aI<;>intro c2
 .rw[(bL c0 c1).1,(bL c0 c1).2,Bd c2];rfl
 apply aI<;>intro c3
 .rw[(bL c0 c1).1,(bL c0 c1).2,Bd c3];rfl
 apply aI<;>intro c4
 .rw[(bL c0 c1).1,(bL c0 c1).2,Bd c4];rfl
 apply aI<;>intro c5
 .rw[(bL c0 c1).1,(bL c0 c1).2,Bd c5];rfl
 apply aI<;>intro c6
 .rw[(bL c0 c1).1,(bL c0 c1).2,Bd c6];rfl
 apply aI<;>intro c7
 .rw[(bL c0 c1).1,(bL c0 c1).2,Bd c7];rfl
 apply aI<;>intro c8
 .rw[(bL c0 c1).1,(bL c0 c1).2,Bd c8];rfl
 apply aI<;>intro c9
 .rw[(bL c0 c1).1,(bL c0 c1).2,Bd c9];rfl
 .exact ahz c0 rfl c2 c3 c4 c5 c6 c7 c8 c9
 refine qJ ?_
 .rw[(nM c0 c1).1,(nM c0 c1).2];rfl
 .rw[(aa9 c0).1,(aa9 c0).2];rfl
def RD{p:Prop}(k:q2)(h:p->q=q2:=by intro e;(try simp only[e,ct,aN,ai,aB,-eq_self]);rfl):p->q:=fun e=>(h e).symm▸k
def afb:List (Nat×TI):=[(2,DA),
 (3,C1),
 (39,hZ),
 (43,hJ),
 (57,lm),
 (59,oQ),
 (61,iM),
 (63,yL),
 (64,OI),
 (65,OH),
 (67,SD)]
def ae4:∀t i,(t,i)∈afb->TIok ZF t i:=bK (Ed (z:=FC) ⟨Mu,qW⟩<|Ed (z:=D5) ⟨Mr,qV⟩ Ch) Ch (by kernel_rfl)
def c_tstore:Cd:=⟨39,[.agg kSta,.one (.int .i64),.one (.int .i64),.one (.int .i64),.agg kTy],[.agg kSta,.one (.int .i64)],rd_Sta fun s=>rdZ fun lo=>rdZ fun hi=>rdZ fun size=>rd_Ty fun t _=>d_Sta (je s lo hi size t) [.z (nJ s lo hi size t)],T0⟩
def qh:Tr:=
(.call 0 [.bool] (.vs 0 174 .nil) 183
(.br (.s 183)
(.br (.eq (.w 174) (.p 0))
(.u (.zs [0,0,0,0,0,0,0,0,0,0,0,0,0,0,0,0,0,0,0,0,0,0,0,0,0,0,0,0,0,0,0,0,0,0,0,0,0,0,0,0,0,0,0,0,0,0,0,0,0,0,0,0,0,0,0,0,0,0,0,0,0,0,0,0,0,0,0,0,0,0,0,0,0,0,0,0,0,0,0,0,0,0,0,0,0,0,0,0,0,0,0,0,0,0,0,0,0,0,0,0,0,0,0,0,0,0,0,0,0,0,0,0,0,0,0,0,0,0,0,0,0,0,0,0,0,0,0,0,0,0,0,0,0,0,0,0,0,0,0,0,0,0,0,0,0,0,0,0,0,0,0,0,0,0,0,0,0,0,0,0,0,0,0,0,0,0,0,0,0,0,0,2] .nil))
(.call 2 [.bool] (.vs 174 9 .nil) 184
(.br (.s 184)
(.call 1 [.int .i64,.bool] (.vs 171 3 .nil) 185
(.br (.s 186)
(.br (.eq (.w 185) (.p 0))
(.u (.vs 0 99 (.vs 174 9 (.vs 108 63 (.cons (.p 0) .nil)))))
(.br (.eq (.w 185) (.p 1))
(.u (.vs 0 108 (.vs 174 9 (.vs 117 54 (.cons (.p 0) .nil)))))
(.br (.eq (.w 185) (.p 2))
(.u (.vs 0 117 (.vs 174 9 (.vs 126 45 (.cons (.p 0) .nil)))))
(.br (.eq (.w 185) (.p 3))
(.u (.vs 0 126 (.vs 174 9 (.vs 135 36 (.cons (.p 0) .nil)))))
(.br (.eq (.w 185) (.p 4))
(.u (.vs 0 135 (.vs 174 9 (.vs 144 27 (.cons (.p 0) .nil)))))
(.br (.eq (.w 185) (.p 5))
(.u (.vs 0 144 (.vs 174 9 (.vs 153 18 (.cons (.p 0) .nil)))))
(.br (.eq (.w 185) (.p 6))
(.u (.vs 0 153 (.vs 174 9 (.vs 162 9 (.cons (.p 0) .nil)))))
(.br (.eq (.w 185) (.p 7))
(.u (.vs 0 162 (.vs 174 9 (.cons (.p 0) .nil))))
.panic))))))))
(.loop 0 187 [.int .i64,.int .i8,.int .u64,.int .u64,.int .i64,.int .i64,.int .u64,.int .u64,.int .i64,.int .i64,.int .i8,.int .u64,.int .u64,.int .i64,.int .i64,.int .u64,.int .u64,.int .i64,.int .i64,.int .i8,.int .u64,.int .u64,.int .i64,.int .i64,.int .u64,.int .u64,.int .i64,.int .i64,.int .i8,.int .u64,.int .u64,.int .i64,.int .i64,.int .u64,.int .u64,.int .i64,.int .i64,.int .i8,.int .u64,.int .u64,.int .i64,.int .i64,.int .u64,.int .u64,.int .i64,.int .i64,.int .i8,.int .u64,.int .u64,.int .i64,.int .i64,.int .u64,.int .u64,.int .i64,.int .i64,.int .i8,.int .u64,.int .u64,.int .i64,.int .i64,.int .u64,.int .u64,.int .i64,.int .i64,.int .i8,.int .u64,.int .u64,.int .i64,.int .i64,.int .u64,.int .u64,.int .i64,.int .i64] (.cons (.f .quo .i64 (.w 171) (.p 8)) (.vs 99 72 .nil))
(.br (.lt (.f .quo .i64 (.f .sub .i64 (.f .add .i64 (.w 172) (.w 173)) (.p 1)) (.p 8)) (.w 187))
(.u (.vs 0 99 (.vs 188 72 (.cons (.p 0) .nil))))
(.call 3 (kTy) .nil 260
(.br (.eq (.w 187) (.p 0))
(.next 0 (.cons (.f .add .i64 (.w 187) (.p 1)) (.vs 260 9 (.vs 197 63 .nil))))
(.br (.eq (.w 187) (.p 1))
(.next 0 (.cons (.f .add .i64 (.w 187) (.p 1)) (.vs 188 9 (.vs 260 9 (.vs 206 54 .nil)))))
(.br (.eq (.w 187) (.p 2))
(.next 0 (.cons (.f .add .i64 (.w 187) (.p 1)) (.vs 188 18 (.vs 260 9 (.vs 215 45 .nil)))))
(.br (.eq (.w 187) (.p 3))
(.next 0 (.cons (.f .add .i64 (.w 187) (.p 1)) (.vs 188 27 (.vs 260 9 (.vs 224 36 .nil)))))
(.br (.eq (.w 187) (.p 4))
(.next 0 (.cons (.f .add .i64 (.w 187) (.p 1)) (.vs 188 36 (.vs 260 9 (.vs 233 27 .nil)))))
(.br (.eq (.w 187) (.p 5))
(.next 0 (.cons (.f .add .i64 (.w 187) (.p 1)) (.vs 188 45 (.vs 260 9 (.vs 242 18 .nil)))))
(.br (.eq (.w 187) (.p 6))
(.next 0 (.cons (.f .add .i64 (.w 187) (.p 1)) (.vs 188 54 (.vs 260 9 (.vs 251 9 .nil)))))
(.br (.eq (.w 187) (.p 7))
(.next 0 (.cons (.f .add .i64 (.w 187) (.p 1)) (.vs 188 63 (.vs 260 9 .nil))))
.panic)))))))))))))
(.u (.zs [0,0,0,0,0,0,0,0,0,0,0,0,0,0,0,0,0,0,0,0,0,0,0,0,0,0,0,0,0,0,0,0,0,0,0,0,0,0,0,0,0,0,0,0,0,0,0,0,0,0,0,0,0,0,0,0,0,0,0,0,0,0,0,0,0,0,0,0,0,0,0,0,0,0,0,0,0,0,0,0,0,0,0,0,0,0,0,0,0,0,0,0,0,0,0,0,0,0,0,0,0,0,0,0,0,0,0,0,0,0,0,0,0,0,0,0,0,0,0,0,0,0,0,0,0,0,0,0,0,0,0,0,0,0,0,0,0,0,0,0,0,0,0,0,0,0,0,0,0,0,0,0,0,0,0,0,0,0,0,0,0,0,0,0,0,0,0,0,0,0,0,2] .nil)))))
(.u (.zs [0,0,0,0,0,0,0,0,0,0,0,0,0,0,0,0,0,0,0,0,0,0,0,0,0,0,0,0,0,0,0,0,0,0,0,0,0,0,0,0,0,0,0,0,0,0,0,0,0,0,0,0,0,0,0,0,0,0,0,0,0,0,0,0,0,0,0,0,0,0,0,0,0,0,0,0,0,0,0,0,0,0,0,0,0,0,0,0,0,0,0,0,0,0,0,0,0,0,0,0,0,0,0,0,0,0,0,0,0,0,0,0,0,0,0,0,0,0,0,0,0,0,0,0,0,0,0,0,0,0,0,0,0,0,0,0,0,0,0,0,0,0,0,0,0,0,0,0,0,0,0,0,0,0,0,0,0,0,0,0,0,0,0,0,0,0,0,0,0,0,0,2] .nil))))
def ag7:cG afb (FH 0 [c_tacc,c_texa,c_ttok,c_tscal]) [] [(8,[.tmpI 14 .i64,.cI 0 99 .i8,.cI 0 100 .u64,.cI 0 101 .u64,.cI 0 102 .i64,.cI 0 103 .i64,.cI 0 104 .u64,.cI 0 105 .u64,.cI 0 106 .i64,.cI 0 107 .i64,.cI 0 108 .i8,.cI 0 109 .u64,.cI 0 110 .u64,.cI 0 111 .i64,.cI 0 112 .i64,.cI 0 113 .u64,.cI 0 114 .u64,.cI 0 115 .i64,.cI 0 116 .i64,.cI 0 117 .i8,.cI 0 118 .u64,.cI 0 119 .u64,.cI 0 120 .i64,.cI 0 121 .i64,.cI 0 122 .u64,.cI 0 123 .u64,.cI 0 124 .i64,.cI 0 125 .i64,.cI 0 126 .i8,.cI 0 127 .u64,.cI 0 128 .u64,.cI 0 129 .i64,.cI 0 130 .i64,.cI 0 131 .u64,.cI 0 132 .u64,.cI 0 133 .i64,.cI 0 134 .i64,.cI 0 135 .i8,.cI 0 136 .u64,.cI 0 137 .u64,.cI 0 138 .i64,.cI 0 139 .i64,.cI 0 140 .u64,.cI 0 141 .u64,.cI 0 142 .i64,.cI 0 143 .i64,.cI 0 144 .i8,.cI 0 145 .u64,.cI 0 146 .u64,.cI 0 147 .i64,.cI 0 148 .i64,.cI 0 149 .u64,.cI 0 150 .u64,.cI 0 151 .i64,.cI 0 152 .i64,.cI 0 153 .i8,.cI 0 154 .u64,.cI 0 155 .u64,.cI 0 156 .i64,.cI 0 157 .i64,.cI 0 158 .u64,.cI 0 159 .u64,.cI 0 160 .i64,.cI 0 161 .i64,.cI 0 162 .i8,.cI 0 163 .u64,.cI 0 164 .u64,.cI 0 165 .i64,.cI 0 166 .i64,.cI 0 167 .u64,.cI 0 168 .u64,.cI 0 169 .i64,.cI 0 170 .i64]++Eb [(0,2),(4,1),(6,4),(11,3),(15,46)])] [] 200 f39 c_tstore.a c_tstore.r (tp c_tstore.r) (v_Sta (.int .i64::.int .i64::.int .i64::v_Ty [])) qh:=FJ (by kernel_rfl)
def alL:c_tstore.Ok ZF:=
 GJ qh (v_Sta (.int .i64::.int .i64::.int .i64::v_Ty [])) ae4 (Aq anK<|Aq anJ<|Aq anI<|Aq qP AR) func39 FD ag7<|fE fun s hs=>fun lo I6 hi I4 size IE=>bP fun t ht hp ρ g=>by
 have As:=g;simp only[c_tstore,de,iU,rdZ,rdB,rdL];simp only[js,Bo,AT,ZE]at g;simp(maxSteps:=10000000) only[qh,Lv,c_tacc,c_texa,c_ttok,c_tscal,rdZ,rdB,rdL,c_tstore,js,Bo,Am,YI,ZE,-eq_self,ct,aN,ai,aB,g];refine RD ?_;apply aI<;>intro c0;apply aI<;>intro c1
 .rw[(iB (.inr (T5 c1))).1,(iB (.inr (T5 c1))).2];rfl
 refine RD ?_;apply aI<;>intro c2;refine RD ?_;apply aI<;>intro c3;apply aI<;>intro c4
 .have e:=Bd c4;rw[(bi c0 (eg c1 c2) c3).1,(bi c0 (eg c1 c2) c3).2,e];rfl
 apply aI<;>intro c5
 .have e:=Bd c5;rw[(bi c0 (eg c1 c2) c3).1,(bi c0 (eg c1 c2) c3).2,e];rfl
 apply aI<;>intro c6
 .have e:=Bd c6;rw[(bi c0 (eg c1 c2) c3).1,(bi c0 (eg c1 c2) c3).2,e];rfl
 apply aI<;>intro c7
 .have e:=Bd c7;rw[(bi c0 (eg c1 c2) c3).1,(bi c0 (eg c1 c2) c3).2,e];rfl
 apply aI<;>intro c8
 .have e:=Bd c8;rw[(bi c0 (eg c1 c2) c3).1,(bi c0 (eg c1 c2) c3).2,e];rfl
 apply aI<;>intro c9
 .have e:=Bd c9;rw[(bi c0 (eg c1 c2) c3).1,(bi c0 (eg c1 c2) c3).2,e];rfl
 apply aI<;>intro CA
 .have e:=Bd CA;rw[(bi c0 (eg c1 c2) c3).1,(bi c0 (eg c1 c2) c3).2,e];rfl
 apply aI<;>intro DD
 .have e:=Bd DD;rw[(bi c0 (eg c1 c2) c3).1,(bi c0 (eg c1 c2) c3).2,e];rfl
 .exact ahz c0 rfl c4 c5 c6 c7 c8 c9 CA DD
 obtain⟨q1,q2,q3,q4,q5⟩:=nL c0;refine⟨fun ds=>∃n:Int,ds=.z n::asV (BA s (CI (lo / 8) n) tscal)/\lo / 8<=n/\n<=(hi+size-1) / 8+1,fun ds=>(100-dI ds 0).toNat,⟨lo / 8,by rw[NX q2 Fn,afM (fun k h0 h1=>by unfold CI;simp)];try rfl,by omega,by omega⟩,?_⟩;intro ρ1 A7 _ Bm;obtain⟨n,Bw,r1,r2⟩:=Bm;simp only[asV,AY,Dt.z.injEq,ZE,and_true]at Bw;have An:=(oZ A7 _ 0 Os).trans As;have g1:=An;simp only[js,Bo,AT,ZE]at g1;simp only[g1,Bw,-eq_self];apply aI<;>intro Cp
 .have h9:=Ae Cp;have q6:=(rP c0).1;rw[q6]at h9;rw[(ly c0 (eg c1 c2) c3).1,(ly c0 (eg c1 c2) c3).2,<-arX c0 (n:=n) Fn Fn];rfl
 refine RD ?_;apply aI<;>intro C9
 .have h9:=Af Cp;have q6:=(rP c0).1;rw[q6]at h9;have e:=Bd C9;subst e;refine⟨⟨1,?_,by omega,by omega⟩,?_⟩
  .rw[akJ (q:=CI (lo / 8) 1) (p:=CI (lo / 8) 0) (fun k _ _=>gZ (n:=0) Fn)];rfl
  .show(100-(1:Int)).toNat<(100-(0:Int)).toNat;decide
 apply aI<;>intro DE
 .have h9:=Af Cp;have q6:=(rP c0).1;rw[q6]at h9;have e:=Bd DE;subst e;refine⟨⟨2,?_,by omega,by omega⟩,?_⟩
  .rw[akI (q:=CI (lo / 8) 2) (p:=CI (lo / 8) 1) (fun k _ _=>gZ (n:=1) Fn)];rfl
  .show(100-(2:Int)).toNat<(100-(1:Int)).toNat;decide
 apply aI<;>intro DI
 .have h9:=Af Cp;have q6:=(rP c0).1;rw[q6]at h9;have e:=Bd DI;subst e;refine⟨⟨3,?_,by omega,by omega⟩,?_⟩
  .rw[akH (q:=CI (lo / 8) 3) (p:=CI (lo / 8) 2) (fun k _ _=>gZ (n:=2) Fn)];rfl
  .show(100-(3:Int)).toNat<(100-(2:Int)).toNat;decide
 apply aI<;>intro Ew
 .have h9:=Af Cp;have q6:=(rP c0).1;rw[q6]at h9;have e:=Bd Ew;subst e;refine⟨⟨4,?_,by omega,by omega⟩,?_⟩
  .rw[akG (q:=CI (lo / 8) 4) (p:=CI (lo / 8) 3) (fun k _ _=>gZ (n:=3) Fn)];rfl
  .show(100-(4:Int)).toNat<(100-(3:Int)).toNat;decide
 apply aI<;>intro Ec
 .have h9:=Af Cp;have q6:=(rP c0).1;rw[q6]at h9;have e:=Bd Ec;subst e;refine⟨⟨5,?_,by omega,by omega⟩,?_⟩
  .rw[akF (q:=CI (lo / 8) 5) (p:=CI (lo / 8) 4) (fun k _ _=>gZ (n:=4) Fn)];rfl
  .show(100-(5:Int)).toNat<(100-(4:Int)).toNat;decide
 apply aI<;>intro DJ
 .have h9:=Af Cp;have q6:=(rP c0).1;rw[q6]at h9;have e:=Bd DJ;subst e;refine⟨⟨6,?_,by omega,by omega⟩,?_⟩
  .rw[akE (q:=CI (lo / 8) 6) (p:=CI (lo / 8) 5) (fun k _ _=>gZ (n:=5) Fn)];rfl
  .show(100-(6:Int)).toNat<(100-(5:Int)).toNat;decide
 apply aI<;>intro D7
 .have h9:=Af Cp;have q6:=(rP c0).1;rw[q6]at h9;have e:=Bd D7;subst e;refine⟨⟨7,?_,by omega,by omega⟩,?_⟩
  .rw[akD (q:=CI (lo / 8) 7) (p:=CI (lo / 8) 6) (fun k _ _=>gZ (n:=6) Fn)];rfl
  .show(100-(7:Int)).toNat<(100-(6:Int)).toNat;decide
 apply aI<;>intro FN
 .have h9:=Af Cp;have q6:=(rP c0).1;rw[q6]at h9;have e:=Bd FN;subst e;refine⟨⟨8,?_,by omega,by omega⟩,?_⟩
  .rw[akC (q:=CI (lo / 8) 8) (p:=CI (lo / 8) 7) (fun k _ _=>gZ (n:=7) Fn)];rfl
  .show(100-(8:Int)).toNat<(100-(7:Int)).toNat;decide
 .have h9:=Af Cp;have q6:=(rP c0).1;rw[q6]at h9;simp only[jq]at C9 DE DI Ew Ec DJ D7 FN;omega
 .rw[(iB (.inr (amN c2))).1,(iB (.inr (amN c2))).2];rfl
 .rw[(iB (.inl c0)).1,(iB (.inl c0)).2];rfl
def awM(x:Ins):c_vrd.F (d_Ins x [])=[.z (C7 x)]:=by show[Dt.z (C7 ⟨x.k,x.op,x.w,x.sz,Ay x.br==1,x.d,x.s,x.off,x.imm⟩)]=_;rw[b2i_one]
def ave(i:Int)(x:Ins):c_itgt.F (.z i::d_Ins x [])=[.z (AD i x).1,.z (Ay (AD i x).2)]:=by show[Dt.z (AD i ⟨x.k,x.op,x.w,x.sz,Ay x.br==1,x.d,x.s,x.off,x.imm⟩).1,.z (Ay (AD i ⟨x.k,x.op,x.w,x.sz,Ay x.br==1,x.d,x.s,x.off,x.imm⟩).2)]=_;rw[b2i_one]
def avb(x:Ins)(a b:Ty):c_valu.F (.l (E1 x)::d_Ty a (d_Ty b []))=d_Ty (Do x a b) []:=by show d_Ty (Do (ab (E1 x) 0) a b) []=_;rw[aiz]
def aok(c:Int)(l:LL)(x:Ins)(t:Ty):c_vacc.F (.z c::.l l::.l (E1 x)::d_Ty t [])=[.z (HM t x),.z (HL t x),.z (Ay (aG c t x.off x.sz))]:=by show[Dt.z (Ac .add .i64 t.lo (ab (E1 x) 0).off),.z (Ac .add .i64 t.hi (ab (E1 x) 0).off),.z (Ay (aG c t (ab (E1 x) 0).off (ab (E1 x) 0).sz))]=_;rw[aiz];rfl
def asu(s:Sta)(lo hi z:Int):c_tload.F (d_Sta s [.z lo,.z hi,.z z])=d_Ty (oR s lo hi z) [.z (qa s lo hi z)]:=by simp only[c_tload];rw[de];rfl
def amA(s:Sta)(lo hi z:Int)(t:Ty):c_tstore.F (d_Sta s (.z lo::.z hi::.z z::d_Ty t []))=d_Sta (je s lo hi z t) [.z (nJ s lo hi z t)]:=by simp only[c_tstore];rw[de];rfl
def av2(h:k<64):Ac .add .i64 (k:Int) 1=((k+1:Nat):Int):=by show IntKind.i64.wrap _=_;rw[aK];omega
def Tx(ρ:Env)(n:Nat):Sc:=⟨ρ.i n,ρ.i (n+1),ρ.i (n+2),ρ.i (n+3),ρ.i (n+4),ρ.i (n+5)⟩
def SO(ρ:Env)(n:Nat)(t:E):(E.vs n 6 t).D ρ=d_Sc (Tx ρ n) (t.D ρ):=by kernel_rfl
def awO(ρ:Env)(e:E)(n:Nat)(t:E):(E.tn e (n+1) 6 t).D ρ=d_Sc (Al (Dz ρ n) (e.I ρ)).s (t.D ρ):=by kernel_rfl
def avu(ρ:Env)(n:Nat):Tx ρ (n+1)=(C4 ρ n).s:=by kernel_rfl
def Wj{s:Sc}{r:List Dt}(h:eqs ρ (d_Sc s r) v0 0 (kSc++ks)):Tx ρ v0=s/\eqs ρ (d_Sc s r) v0 6 ks:=by obtain⟨h0,h1,h2,h3,h4,h5,h6⟩:=h;refine⟨?_,h6⟩;have e0:ρ.i v0=s.ul:=h0;have e1:ρ.i (v0+1)=s.uh:=h1;have e2:ρ.i (v0+2)=s.sl:=h2;have e3:ρ.i (v0+3)=s.sh:=h3;have e4:ρ.i (v0+4)=s.v:=h4;have e5:ρ.i (v0+5)=s.m:=h5;unfold Tx;rw[e0,e1,e2,e3,e4,e5]
def ava(cc:Int)(a b:Sc):c_vgiv.F (.z cc::d_Sc a (d_Sc b []))=d_Sc (Ev cc a b) [.z (Ay (DB cc a b))]:=rfl
def UK(s:Sc):c_vsca.F (d_Sc s [])=d_Ty (DH s) []:=rfl
def awN(q:Int):c_vby.F [.z q]=d_Sc (C5 q) []:=rfl
def au9(q:Int):c_vone.F [.z q]=d_Sc (B7 q) []:=rfl
section
variable {k:Int}{x:Ins}{s b':Sta}{b:Ty}
def akc(h:x.k=4\/x.k=6):gH k x s b=[]:=ae h
def aaG(h4:x.k≠4)(h6:x.k≠6)(ht:(iq x s b&&gE x.op)=ZC):gH k x s b=[(Ac .add .i64 k 1,s)]:=by unfold gH CW;rw[aa (fun h=>h.elim h4 h6),ht];rfl
def aeP(h4:x.k≠4)(h6:x.k≠6)(ht:(iq x s b&&gE x.op)=ZB):gH k x s b=CW s x.d (Al s x.d) b ZB (Ac .add .i64 k 1) (im x.op) ZB:=by unfold gH;rw[aa (fun h=>h.elim h4 h6)];rw[ne]at ht;rw[ht.1,ht.2]
def akb(h:(AD k x).2=ZC):hG k x s b=[]:=aa XX
def aka(h:(AD k x).2=ZB)(ht:iq x s b=ZC):hG k x s b=[((AD k x).1,s)]:=by unfold hG CW;rw[ae h,ht];rfl
def aeM(h:(AD k x).2=ZB)(ht:iq x s b=ZB):hG k x s b=CW s x.d (Al s x.d) b ZB (AD k x).1 x.op ZB:=by unfold hG;rw[ae h,ht]
end
def apS(h:bc z=ZB):ZG .i64 z=z:=by unfold bc at h;simp only[eu,cb]at h;rw[aK];omega
def jd(x:Ins):Bool:=!(x.k==4) &&!(x.k==6)
def vK(h:jd x=ZB):x.k≠4/\x.k≠6:=by unfold jd at h;simpa using h
def aki(h:jd x=ZC):x.k=4\/x.k=6:=by
 unfold jd at h;by_cases h4:x.k=4
 .exact .inl h4
 .exact .inr (by simpa[h4]using h)
end Go.Proofs.YtgolejfhoefeaabGreatDoor
