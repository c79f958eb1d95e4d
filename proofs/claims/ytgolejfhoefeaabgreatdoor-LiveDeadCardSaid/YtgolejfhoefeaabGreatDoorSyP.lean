import Derived.Test.YtgolejfhoefeaabGreatDoorAeZ
set_option maxRecDepth 100000
set_option maxHeartbeats 8000000
set_option linter.defProp false
set_option linter.unusedVariables false
set_option linter.unusedSimpArgs false
namespace Go.Proofs.YtgolejfhoefeaabGreatDoor
open Option renaming some->ZA,none->ZD
open Bool renaming true->ZB,false->ZC,not_eq_true'->ZL
open List renaming mem_cons->ZN,mem_append->ZS,all_cons->YV
open Nat renaming add_zero->ZP
open Go.RowKit
variable {fn:Func}{s:Sm}{hints cuts:List (Nat×List Pl)}{xs r:List Dt}{w':World}{sp:Spec}{sm:List Sm}{fns:List (Nat×Func×List (Nat×List Pl)×List (Nat×List Pl))}{fuel t:Nat}{P:Program}{z:List C}{k:CK}{vks:List VK}
def jX:∀{z z':List C} {vs:List Value},dU z z'=ZB->aD vs z->aD vs z'
 |[],[],vs,_,h=>h
 |.int k a::l,.int k' b::r,vs,hk,h=>by simp only[dU,ne]at hk;obtain⟨x,us,rfl,h1,h2⟩:=ah h;exact⟨av hk.1,h1,jX hk.2 h2⟩
 |.bool a::l,.bool b::r,vs,hk,h=>by simp only[dU]at hk;obtain⟨x,us,rfl,h2⟩:=dR h;exact jX (z:=l) (z':=r) hk h2
def cD:List Value->List Lit
 |.int k x::l=>.int k x::cD l
 |.bool b::l=>.bool b::cD l
 |_=>[]
def uZ:∀{z:List C} {vs us:List Value},aD vs z->aD us z->(CB vs us=ZB↔cD vs=cD us)
 |[],vs,us,h,h'=>by rw[bz h,bz h'];simp[CB]
 |.int k e::r,vs,us,h,h'=>by obtain⟨x,l,rfl,_,h2⟩:=ah h;obtain⟨y,m,rfl,_,g2⟩:=ah h';simp[CB,cD,uZ h2 g2]
 |.bool e::r,vs,us,h,h'=>by obtain⟨x,l,rfl,h2⟩:=dR h;obtain⟨y,m,rfl,g2⟩:=dR h';simp[CB,cD,uZ h2 g2]
 |.yld _::_,vs,us,h,_|.wn _ _ _ _ _::_,vs,us,h,_|.aw _ _ _ _ _ _ _::_,vs,us,h,_|.str _::_,vs,us,h,_|.pe _ _ _ _ _ _::_,vs,us,h,_|.nmp::_,vs,us,h,_|.mp _::_,vs,us,h,_|.itp _ _::_,vs,us,h,_|.ptr _ _::_,vs,us,h,_|.fp _ _::_,vs,us,h,_|.fn _::_,vs,us,h,_|.np::_,vs,us,h,_|.undef::_,vs,us,h,_|.sl _::_,vs,us,h,_|.ep _ _ _ _::_,vs,us,h,_|.nsl::_,vs,us,h,_|.nf::_,vs,us,h,_|.clo _ _ _::_,vs,us,h,_=>by
   cases vs with
   |nil=>exact h.elim
   |cons v l=>cases v<;>exact h.elim
def fU(hk:P.keyTypeAt 6 t=ZB)(hf:∀vs,aD vs z->(Value.agg vs.toArray).formed P t=ZB)(D:Nat)(hl:∀vs,aD vs z->P.keyLits D t vs=ZA (cD vs))(vs us:List Value)(hv:aD vs z)(hu:aD us z)(w:World):
  (Op.equal t (.agg vs.toArray) (.agg us.toArray)).run P w=.ok (CB vs us) w:=by
 obtain⟨r,hr,hiff⟩:=run_equalIn_deep (P:=P) 9994 6 t hk w D D (.agg vs.toArray) (.agg us.toArray) _ _ (hf vs hv) (hf us hu) (by simpa[Value.cells]using hl vs hv) (by simpa[Value.cells]using hl us hu);unfold Op.equal Op.maxDepth;rw[show(10000:Nat)=9994+6 from rfl,hr];congr 1;rw[ar,hiff,uZ hv hu]
structure Ini where
 vk:List VK
 rows:List RowOb
 fb:List (List C)
def Cw(v id:Nat):CK->C×List VK×List RowOb
 |.int k=>(.int k (.w v),[.int k],[])
 |.bool=>(.bool (.s v),[.bool],[])
 |.fn g=>(.fn g,[],[])
 |.p k z=>(.int k (.p z),[],[])
 |.sl ks ty=>(.sl id,[.list ks],[⟨ks,ty,.g v,ZC,CO ks⟩])
 |.nf=>(.nf,[],[])
 |.any=>(.undef,[],[])
 |.rl ks ty L=>(.sl id,[],[⟨ks,ty,Mh ks .ln L,ZC,CO ks⟩])
 |.el ks ty=>(.ep id ks.length (.p 0) 0,[.list ks],[⟨ks,ty,.g v,ZC,CO ks⟩])
def Dw(v id:Nat):List CK->List C×List VK×List RowOb
 |[]=>([],[],[])
 |k::ks=>let x:=Cw v id k;let y:=Dw (v+x.2.1.length) (id+x.2.2.length) ks;(x.1::y.1,x.2.1++y.2.1,x.2.2++y.2.2)
def Cl(v id DX:Nat):List Sh->List V×List VK×List RowOb×List (List C)
 |[]=>([],[],[],[])
 |.one k::ss=>let x:=Cw v id k;let y:=Cl (v+x.2.1.length) (id+x.2.2.length) DX ss;(.one x.1::y.1,x.2.1++y.2.1,x.2.2++y.2.2.1,y.2.2.2)
 |.agg ks::ss=>let x:=Dw v id ks;let y:=Cl (v+x.2.1.length) (id+x.2.2.length) DX ss;(.agg x.1::y.1,x.2.1++y.2.1,x.2.2++y.2.2.1,y.2.2.2)
 |.ptr ks::ss=>let x:=Dw v id ks;let y:=Cl (v+x.2.1.length) (id+x.2.2.length) (DX+1) ss;(.one (.fp DX 0)::y.1,x.2.1++y.2.1,x.2.2++y.2.2.1,x.1::y.2.2.2)
def IT:CK->Bool
 |.sl ks _=>decide (0<ks.length)
 |.el ks _=>decide (0<ks.length) &&!bZ ks CM
 |.any=>ZC
 |_=>ZB
def auT:CK->Bool
 |.any=>ZB
 |k=>IT k
def Sz:Sh->Bool
 |.ptr ks=>ks.all auT
 |s=>s.cks.all IT
def Jl(ss:List Sh):Bool:=ss.all Sz
section
variable {P:Program}{sp:Spec}{ρ:Env}{w:World}
def vL{ρ:Env}:∀(a b:List VK) (v:Nat),varsD ρ v (a++b)=varsD ρ v a++varsD ρ (v+a.length) b
 |[],b,v=>rfl
 |k::a,b,v=>by simp only[List.cons_append,varsD,vL a b (v+1),List.length_cons];rw[show v+1+a.length=v+(a.length+1) by omega]
def oz{ρ:Env}:∀(a:List VK) (v:Nat),(varsD ρ v a).length=a.length
 |[],v=>rfl
 |k::a,v=>by simp[varsD,oz a (v+1)]
def ab7:∀{a b:List VK} {x y:List Dt},okDs a x->okDs b y->okDs (a++b) (x++y)
 |[],b,[],y,_,h=>h
 |k::a,b,d::x,y,h,h'=>⟨h.1,ab7 h.2 h'⟩
 |[],b,_::_,y,h,_=>h.elim
 |k::a,b,[],y,h,_=>by cases k<;>exact h.elim
def ab6:∀{a:List VK} {x:List Dt},okDs a x->x.length=a.length
 |[],[],_=>rfl
 |k::a,d::x,h=>by simp[ab6 h.2]
 |[],_::_,h=>h.elim
 |k::a,[],h=>by cases k<;>exact h.elim
def au1(b:Bool):Ay b=0\/Ay b=1:=by cases b<;>simp[Ay]
structure ArgOk(w:World)(v id:Nat)(vk:List VK)(rows:List RowOb)(d:List Dt)(svs:List SV)(den:Env->J->Prop):Prop where
 len:svs.length=rows.length
 zz:∀s∈svs,∀p∈s.z,w.heap[p.1]? =ZA p.2/\B6 p.2=ZB
 ok:okDs vk d
 at':∀(ρ:Env) (j:J),varsD ρ v vk=d->(∀(i:Nat) s,svs[i]? =ZA s->j.s (id+i)=ZA s)->den ρ j/\∀(i:Nat) s q,svs[i]? =ZA s->rows[i]? =ZA q->q.own=ZC/\∀base,RowOk ρ base w s q
def JL(w:World):List SV->List (Nat×Obj)
 |[]=>[]
 |x::l=>(match x.blk ZC with
   |some k=>(match w.heap[k]? with|some o=>[(k,o)]|none=>[])
   |none=>[])++JL w l
def an6:∀{ins:List SV},(∀x∈ins,∀k,x.blk ZC=ZA k->∃o,w.heap[k]? =ZA o/\B6 o=ZB)->∀p∈JL w ins,w.heap[p.1]? =ZA p.2/\B6 p.2=ZB
 |[],_,p,hp=>by cases hp
 |x::l,h,p,hp=>by
   simp only[JL,ZS]at hp;rcases hp with hp|hp
   .cases hb:x.blk ZC with
    |none=>rw[hb]at hp;cases hp
    |some k=>obtain⟨o,h1,h2⟩:=h x bG k hb;rw[hb]at hp;simp only[h1,cV]at hp;subst hp;exact⟨h1,h2⟩
   .exact an6 (fun y hy=>h y (cm _ hy)) p hp
def an7:∀{ins:List SV} {x:SV},x∈ins->∀p∈JL w [x],p∈JL w ins
 |y::l,x,h,p,hp=>by
   rcases ZN.1 h with rfl|h
   .simp only[JL,List.append_nil]at hp;simp only[JL,ZS];exact .inl hp
   .have:=an7 h p hp;simp only[JL,ZS];exact .inr this
def EvIn.ei{row:List Int}{x:SV}{z:List (Nat×Obj)}(h:EvIn w row x)(hz:∀p∈JL w [x],p∈z):EiOk z row x:=by
 have blk:∀k,x.blk ZC=ZA k->∃o,(k,o)∈z/\w.heap[k]? =ZA o:=fun k hk=>by obtain⟨o,h1,h2⟩:=h.blk k hk;exact⟨o,hz _ (by simp[JL,hk,h1]),h1⟩
 refine⟨h.n,h.most,h.rest,fun w' hw=>h.rd.kept (fun k hk=> ?_),fun k hk=> ?_⟩
 .obtain⟨o,h1,h2⟩:=blk k hk;rw[h2];exact hw _ h1
 .obtain⟨o,h1,_⟩:=blk k hk;exact⟨o,h1⟩
def zY{u:Value}(hk:IT k=ZB)(h:yf w k xs u r)(v id:Nat):∃d svs,xs=d++r/\ArgOk w v id (Cw v id k).2.1 (Cw v id k).2.2 d svs (fun ρ j=>(Cw v id k).1.den ρ j=ZA u):=by
 cases k with
 |int k=>obtain⟨x,rfl,rfl,hx⟩:=h;refine⟨[.z x],[],rfl,rfl,fun s hs=>(by cases hs),⟨hx,trivial⟩,fun ρ j hd _=>⟨?_,fun i s q hs=>by simp at hs⟩⟩;simp only[Cw,varsD,varD,AY,Dt.z.injEq,and_true]at hd;simp[Cw,C.den,E.I,hd]
 |bool=>obtain⟨b,rfl,rfl⟩:=h;refine⟨[.z (Ay b)],[],rfl,rfl,fun s hs=>(by cases hs),⟨au1 b,trivial⟩,fun ρ j hd _=>⟨?_,fun i s q hs=>by simp at hs⟩⟩;simp only[Cw,varsD,varD,AY,Dt.z.injEq,and_true]at hd;simp[Cw,C.den,E.B,oq hd]
 |fn g=>obtain⟨rfl,rfl⟩:=h;exact⟨[],[],rfl,rfl,fun s hs=>(by cases hs),trivial,fun ρ j _ _=>⟨rfl,fun i s q hs=>by simp at hs⟩⟩
 |p k z=>obtain⟨rfl,rfl⟩:=h;exact⟨[],[],rfl,rfl,fun s hs=>(by cases hs),trivial,fun ρ j _ _=>⟨rfl,fun i s q hs=>by simp at hs⟩⟩
 |nf=>obtain⟨rfl,rfl⟩:=h;exact⟨[],[],rfl,rfl,fun s hs=>(by cases hs),trivial,fun ρ j _ _=>⟨rfl,fun i s q hs=>by simp at hs⟩⟩
 |any=>cases hk
 |el ks ty=>
   obtain⟨row,p,rfl,rfl,AG,Ap,By⟩:=h;have hL:RowsIn ks [row]:=⟨fun r hr=>(by rw[cV.1 hr];exact AG),by simp[maxLen]⟩
   simp only[IT,ne,ax,ZL]at hk;have Dq:CO ks=.sl:=by
    rcases cK ks with⟨h1,_⟩|⟨_,h1⟩
    .rw[h1]at hk;exact ak hk.2 Os
    .exact h1
   have I9:p.add 0=p:=XP;refine⟨[.l [row]],[⟨ZA p,1,1,[]⟩],rfl,rfl,fun s' Bi=>Yo,⟨hL,trivial⟩,fun ρ j hd hs=>⟨?_,fun i s' q Bi hq=> ?_⟩⟩
   .have:=hs 0 _ rfl;simp only[ZP]at this;simp[Cw,C.den,this,SV.elem,E.I,I9]
   .simp only[Cw,varsD,varD,AY,Dt.l.injEq,and_true]at hd;cases i with
    |succ i=>simp at Bi
    |zero=>
      simp only[Cw,cH,aU]at Bi hq;subst Bi hq;refine⟨rfl,fun base=>SlOk.row ⟨?_,?_,hk.1,fun k hb=> ?_,fun ho=>(by cases ho),?_⟩ Dq⟩
      .simp only[E.R,hd];rfl
      .simp only[E.R,hd];exact hL
      .have hb:=ay hb;simp only[SV.v,Value.ownBlock,aU]at hb;subst hb;exact Ap
      .simp only[E.R,hd];refine⟨by rw[bt hL.row];rfl,Nat.le_refl _,by simp[maxLen],fun h=>ST,fun a ha i u hu=> ?_⟩;cases ha;exact By i u hu
 |rl ks ty L=>
   obtain⟨rfl,Ai,s,rfl,hn,A9,Ap⟩:=h;refine⟨[],[{s with z:=[]}],rfl,rfl,fun s' Bi=>Yo,trivial,fun ρ j hd hs=>⟨?_,fun i s' q Bi hq=> ?_⟩⟩
   .have:=hs 0 _ rfl;simp only[ZP]at this;show(j.s id).map SV.v=_;rw[this];rfl
   .obtain⟨hR,AH,hp,Dq⟩:=zC (ρ:=ρ) Ai;unfold TRow at A9;rw[Dq]at A9;cases i with
    |succ i=>simp at Bi
    |zero=>
      simp only[Cw,cH,aU]at Bi hq;subst Bi hq;refine⟨rfl,fun base=>SlOk.row ⟨?_,?_,hp,Ap,fun ho=>(by cases ho),?_⟩ Dq⟩
      .simp only[hR];exact hn
      .simp only[hR];exact AH
      .simp only[hR];exact A9
 |sl ks ty=>
   obtain⟨L,s,rfl,rfl,hn,A9,AH,Ap⟩:=h;unfold TRow at A9;rcases cK ks with⟨Bx,Dq⟩|⟨_,Dq⟩
   .rw[Dq]at A9;obtain⟨ins,Bm,Hi,KK⟩:=A9;have Db:∀x∈ins,∀k,x.blk ZC=ZA k->∃o,w.heap[k]? =ZA o/\B6 o=ZB:=fun x hx=>by
     obtain⟨i,hi⟩:=List.getElem?_of_mem hx;have Ap:i<L.length:=by rw[<-Bm];exact(bX.1 hi).1
     exact(KK i L[i] x (Az Ap) hi).blk
    refine⟨[.l L],[{s with z:=JL w ins}],rfl,rfl,fun s' Bi=>(by rw[cV.1 Bi];exact an6 Db),⟨AH,trivial⟩,fun ρ j hd hs=>⟨?_,fun i s' q Bi hq=> ?_⟩⟩
    .have:=hs 0 _ rfl;simp only[ZP]at this;show(j.s id).map SV.v=_;rw[this];rfl
    .simp only[Cw,varsD,varD,AY,Dt.l.injEq,and_true]at hd;cases i with
     |succ i=>simp at Bi
     |zero=>
       simp only[Cw,cH,aU]at Bi hq;subst Bi hq;refine⟨rfl,fun base=>EvOk.row ⟨Bx,?_,?_,Ap,fun ho=>(by cases ho),ins,?_,fun ho=>(by cases ho),?_,fun i row x hr hx=> ?_⟩ Dq⟩
       .simp only[E.R,hd];exact hn
       .simp only[E.R,hd];exact AH
       .simp only[E.R,hd];exact Bm
       .simp only[E.R,hd];exact Hi
       .simp only[E.R,hd]at hr;exact(KK i row x hr hx).ei (fun p hp=>(an7 (ew hx)) p hp)
   .rw[Dq]at A9;refine⟨[.l L],[{s with z:=[]}],rfl,rfl,fun s' Bi=>Yo,⟨AH,trivial⟩,fun ρ j hd hs=>⟨?_,fun i s' q Bi hq=> ?_⟩⟩
    .have:=hs 0 _ rfl;simp only[ZP]at this;show(j.s id).map SV.v=_;rw[this];rfl
    .simp only[Cw,varsD,varD,AY,Dt.l.injEq,and_true]at hd;cases i with
     |succ i=>simp at Bi
     |zero=>
       simp only[Cw,cH,aU]at Bi hq;subst Bi hq;refine⟨rfl,fun base=>SlOk.row ⟨?_,?_,Ae hk,Ap,fun ho=>(by cases ho),?_⟩ Dq⟩
       .simp only[E.R,hd];exact hn
       .simp only[E.R,hd];exact AH
       .simp only[E.R,hd];exact A9
def ArgOk.app{v id:Nat}{vk1 vk2:List VK}{Kv Mi:List RowOb}{d1 d2:List Dt}{s1 s2:List SV}{PG PH:Env->J->Prop}(h1:ArgOk w v id vk1 Kv d1 s1 PG)(h2:ArgOk w (v+vk1.length) (id+Kv.length) vk2 Mi d2 s2 PH):
  ArgOk w v id (vk1++vk2) (Kv++Mi) (d1++d2) (s1++s2) (fun ρ j=>PG ρ j/\PH ρ j):=by
 refine⟨by simp[h1.len,h2.len],fun s hs=>(ZS.1 hs).elim (h1.zz s) (h2.zz s),ab7 h1.ok h2.ok,fun ρ j hd hs=> ?_⟩;rw[vL]at hd;obtain⟨e1,e2⟩:=List.append_inj hd (by rw[oz,ab6 h1.ok]);obtain⟨a1,a2⟩:=h1.at' ρ j e1 (fun i s hi=>hs i s (by rw[AW (bX.1 hi).1];exact hi));obtain⟨b1,b2⟩:=h2.at' ρ j e2 (fun i s hi=>by
  have:=hs (s1.length+i) s (by rw[Bc Fn,Nat.add_sub_cancel_left];exact hi);rw[h1.len]at this;rwa [Nat.add_assoc])
 refine⟨⟨a1,b1⟩,fun i s q hi hq=> ?_⟩;rcases bn i s1.length with Ap|Dp
 .rw[AW Ap]at hi;rw[AW (by rw[<-h1.len];exact Ap)]at hq;exact a2 i s q hi hq
 .rw[Bc Dp]at hi;rw[Bc (by rw[<-h1.len];exact Dp),<-h1.len]at hq;exact b2 _ s q hi hq
def aiB:∀{ks:List CK} {xs r:List Dt} {us:List Value},ks.all IT=ZB->lc w ks xs us r->∀(v id:Nat),∃d svs,xs=d++r/\ArgOk w v id (Dw v id ks).2.1 (Dw v id ks).2.2 d svs (fun ρ j=>Ad ρ j (Dw v id ks).1=ZA us)
 |[],xs,r,us,_,h,v,id=>by obtain⟨rfl,rfl⟩:=h;exact⟨[],[],rfl,rfl,fun s hs=>(by cases hs),trivial,fun ρ j _ _=>⟨rfl,fun i s q hs=>by simp at hs⟩⟩
 |k::ks,xs,r,us,hk,h,v,id=>by simp only[YV,ne]at hk;obtain⟨u,Rc,r',rfl,h1,h2⟩:=h;obtain⟨d1,s1,rfl,g1⟩:=zY hk.1 h1 v id;obtain⟨d2,s2,rfl,g2⟩:=aiB hk.2 h2 (v+(Cw v id k).2.1.length) (id+(Cw v id k).2.2.length);refine⟨d1++d2,s1++s2,by simp,?_⟩;obtain⟨q1,qz,q2,q3⟩:=g1.app g2;refine⟨q1,qz,q2,fun ρ j hd hs=> ?_⟩;obtain⟨⟨a1,a2⟩,a3⟩:=q3 ρ j hd hs;exact⟨by simp only[Dw,Ad,a1,a2],a3⟩
def TC(w:World)(ρ:Env)(j:J)(fb:List (List C))(DX:Nat)(IV:List Nat):Prop:=∀(b:Nat) cs,fb[b]? =ZA cs->∃k vs,IV[b]? =ZA k/\k<w.heap.size/\Ad ρ j cs=ZA vs/\∀(o:Nat) u,vs[o]? =ZA u->jI cs o=ZB->w.cell? ⟨k,o,ZD⟩=ZA u
def zW:∀{ks:List CK} {xs r:List Dt} {us:List Value},ks.all auT=ZB->lc w ks xs us r->∀(v id:Nat),∃d svs Rc,xs=d++r/\ArgOk w v id (Dw v id ks).2.1 (Dw v id ks).2.2 d svs (fun ρ j=>Ad ρ j (Dw v id ks).1=ZA Rc)/\∀(o:Nat) u,Rc[o]? =ZA u->jI (Dw v id ks).1 o=ZB->us[o]? =ZA u
 |[],xs,r,us,_,h,v,id=>by obtain⟨rfl,rfl⟩:=h;exact⟨[],[],[],rfl,⟨rfl,fun s hs=>(by cases hs),trivial,fun ρ j _ _=>⟨rfl,fun i s q hs=>by simp at hs⟩⟩,fun o u hu=>by simp at hu⟩
 |k::ks,xs,r,us,hk,h,v,id=>by
   simp only[YV,ne]at hk;obtain⟨u,us1,r',rfl,h1,h2⟩:=h;by_cases hany:k=.any
   .subst hany;have e1:xs=r':=h1;subst e1;obtain⟨d2,s2,us2,rfl,g2,g3⟩:=zW hk.2 h2 v id;refine⟨d2,s2,Go.undef::us2,rfl,?_,fun o u' hu hs=> ?_⟩
    .obtain⟨q1,qz,q2,q3⟩:=g2;refine⟨q1,qz,q2,fun ρ j hd hs=> ?_⟩;obtain⟨a1,a2⟩:=q3 ρ j hd hs;exact⟨by simp only[Dw,Cw,Ad,C.den];simp only[List.length_nil,ZP];rw[a1],a2⟩
    .cases o with
     |zero=>cases hs
     |succ o=>simpa using g3 o u' XW hs
   .have EX:IT k=ZB:=by
     have:=hk.1;cases k<;>first|exact this|exact ak rfl hany
    obtain⟨d1,s1,rfl,g1⟩:=zY EX h1 v id;obtain⟨d2,s2,us2,rfl,g2,g3⟩:=zW hk.2 h2 (v+(Cw v id k).2.1.length) (id+(Cw v id k).2.2.length);refine⟨d1++d2,s1++s2,u::us2,by simp,?_,fun o u' hu hs=> ?_⟩
    .obtain⟨q1,qz,q2,q3⟩:=g1.app g2;refine⟨q1,qz,q2,fun ρ j hd hs=> ?_⟩;obtain⟨⟨a1,a2⟩,a3⟩:=q3 ρ j hd hs;exact⟨by simp only[Dw,Ad,a1,a2],a3⟩
    .cases o with
     |zero=>simpa using hu
     |succ o=>simpa using g3 o u' XW hs
def vh:∀{ss:List Sh} {xs:List Dt} {vals:List Value},Jl ss=ZB->nN w ss xs vals->∀(v id DX:Nat),∃svs IV,IV.length=(Cl v id DX ss).2.2.2.length/\(Cl v id DX ss).1.length=vals.length/\ArgOk w v id (Cl v id DX ss).2.1 (Cl v id DX ss).2.2.1 xs svs (fun ρ j=>(∀(i:Nat) k,IV[i]? =ZA k->j.f (DX+i)=ZA k)->(∀(i:Nat) x,(Cl v id DX ss).1[i]? =ZA x->∃u,vals[i]? =ZA u/\x.den ρ j=ZA u)/\TC w ρ j (Cl v id DX ss).2.2.2 DX IV)
 |[],xs,vals,_,h,v,id,DX=>by obtain⟨rfl,rfl⟩:=h;exact⟨[],[],rfl,rfl,rfl,fun s hs=>(by cases hs),trivial,fun ρ j _ _=>⟨fun _=>⟨fun i x hx=>by simp[Cl]at hx,fun b cs hb=>by simp[Cl]at hb⟩,fun i s q hs=>by simp at hs⟩⟩
 |.one k::ss,xs,vals,hk,h,v,id,DX=>by
   simp only[Jl,Sz,YV,ne,Sh.cks,List.all_nil,Bool.and_true]at hk;obtain⟨u,us,r,rfl,h1,h2⟩:=h;obtain⟨d1,s1,rfl,g1⟩:=zY hk.1 h1 v id;obtain⟨s2,IV,hf,hl,g2⟩:=vh (ss:=ss) hk.2 h2 (v+(Cw v id k).2.1.length) (id+(Cw v id k).2.2.length) DX;obtain⟨q1,qz,q2,q3⟩:=g1.app g2;refine⟨s1++s2,IV,hf,by simp[Cl,hl],q1,qz,q2,fun ρ j hd hs=> ?_⟩;obtain⟨⟨a1,a2⟩,a3⟩:=q3 ρ j hd hs;refine⟨fun hj=> ?_,a3⟩;obtain⟨b1,b2⟩:=a2 hj;refine⟨fun i x hx=> ?_,b2⟩;cases i with
   |zero=>simp only[Cl,cH,aU]at hx;subst hx;exact⟨u,rfl,a1⟩
   |succ i=>exact b1 i x (by simpa[Cl]using hx)
 |.agg ks::ss,xs,vals,hk,h,v,id,DX=>by
   simp only[Jl,Sz,YV,ne,Sh.cks]at hk;obtain⟨ws,us,r,rfl,h1,h2⟩:=h;obtain⟨d1,s1,rfl,g1⟩:=aiB hk.1 h1 v id;obtain⟨s2,IV,hf,hl,g2⟩:=vh (ss:=ss) hk.2 h2 (v+(Dw v id ks).2.1.length) (id+(Dw v id ks).2.2.length) DX;obtain⟨q1,qz,q2,q3⟩:=g1.app g2;refine⟨s1++s2,IV,hf,by simp[Cl,hl],q1,qz,q2,fun ρ j hd hs=> ?_⟩;obtain⟨⟨a1,a2⟩,a3⟩:=q3 ρ j hd hs;refine⟨fun hj=> ?_,a3⟩;obtain⟨b1,b2⟩:=a2 hj;refine⟨fun i x hx=> ?_,b2⟩;cases i with
   |zero=>simp only[Cl,cH,aU]at hx;subst hx;exact⟨_,rfl,by simp[V.den,a1]⟩
   |succ i=>exact b1 i x (by simpa[Cl]using hx)
 |.ptr ks::ss,xs,vals,hk,h,v,id,DX=>by
   simp only[Jl,Sz,YV,ne]at hk;obtain⟨kk,ws,us,r,rfl,h1,Ap,By,h2⟩:=h;obtain⟨d1,s1,Ml,rfl,g1,gw⟩:=zW hk.1 h1 v id;obtain⟨s2,IV,hf,hl,g2⟩:=vh (ss:=ss) hk.2 h2 (v+(Dw v id ks).2.1.length) (id+(Dw v id ks).2.2.length) (DX+1);obtain⟨q1,qz,q2,q3⟩:=g1.app g2;refine⟨s1++s2,kk::IV,by simp[Cl,hf],by simp[Cl,hl],q1,qz,q2,fun ρ j hd hs=> ?_⟩;obtain⟨⟨a1,a2⟩,a3⟩:=q3 ρ j hd hs;refine⟨fun hj=> ?_,a3⟩;obtain⟨b1,b2⟩:=a2 (fun i k hi=>by
    have:=hj (i+1) k XM;rwa [show DX+(i+1)=DX+1+i by omega]at this)
   refine⟨fun i x hx=> ?_,fun b cs hb=> ?_⟩
   .cases i with
    |zero=>simp only[Cl,cH,aU]at hx;subst hx;have:=hj 0 kk rfl;rw[ZP]at this;exact⟨_,rfl,by simp[V.den,C.den,this]⟩
    |succ i=>exact b1 i x (by simpa[Cl]using hx)
   .cases b with
    |zero=>simp only[Cl,cH,aU]at hb;subst hb;exact⟨kk,Ml,rfl,Ap,a1,fun o u hu hs=>By o u (gw o u hu hs)⟩
    |succ b=>exact b2 b cs (by simpa[Cl]using hb)
def fP(w:World)(o:Obj):w.heap.size<(w.alloc o).heap.size:=by
 have h:=heap_alloc_new w o;rcases bn w.heap.size (w.alloc o).heap.size with h1|h1
 .exact h1
 .rw[Array.getElem?_eq_none h1]at h;cases h
def EvIn.mono(hx:Ext w w'){row:List Int}{x:SV}(h:EvIn w row x):EvIn w' row x:=by
 have lt:∀k,x.blk ZC=ZA k->k<w.heap.size:=fun k hk=>by obtain⟨o,h1,_⟩:=h.blk k hk;exact(fL.1 h1).1
 refine⟨h.n,h.most,h.rest,h.rd.kept (fun k hk=>hx.block k (lt k hk)),fun k hk=> ?_⟩;obtain⟨o,h1,h2⟩:=h.blk k hk;exact⟨o,by rw[hx.block k (lt k hk)];exact h1,h2⟩
def TRow.mono(hx:Ext w w'){ks:List CE}{s:SV}{L:LL}(h:TRow w ks s L)(hb:∀k,s.blk ZC=ZA k->k<w.heap.size):TRow w' ks s L:=by
 unfold TRow at h ⊢;split
 next hk=>rw[hk]at h;obtain⟨ins,h1,h2,h3⟩:=h;exact⟨ins,h1,h2.kept (fun k hk=>hx.block k (hb k hk)),fun i row x hr hi=>(h3 i row x hr hi).mono hx⟩
 .rename_i hk;rcases cK ks with⟨_,h1⟩|⟨_,h1⟩
  .exact ak h1 hk
  .rw[h1]at h;exact h.kept (fun k hk=>hx.block k (hb k hk))
def om(hx:Ext w w'){u:Value}(h:yf w k xs u r):yf w' k xs u r:=by
 cases k with
 |sl ks ty=>obtain⟨L,s,h1,h2,h3,h4,h5,h6⟩:=h;exact⟨L,s,h1,h2,h3,h4.mono hx h6,h5,fun k hk=>nD (h6 k hk) hx.size⟩
 |el ks ty=>obtain⟨row,p,h1,h2,h3,h4,h5⟩:=h;refine⟨row,p,h1,h2,h3,nD h4 hx.size,fun c u hu=> ?_⟩;rw[World.cell?_of_block (a:=p.add c) (hx.block _ (by unfold Addr.add;split<;>exact h4))];exact h5 c u hu
 |rl ks ty L=>obtain⟨h1,h2,s,h3,h4,h5,h6⟩:=h;exact⟨h1,h2,s,h3,h4,h5.mono hx h6,fun k hk=>nD (h6 k hk) hx.size⟩
 |_=>exact h
def lN{w':World}(hx:Ext w w'):∀{ks:List CK} {xs r:List Dt} {us:List Value},lc w ks xs us r->lc w' ks xs us r
 |[],_,_,_,h=>h
 |k::ks,xs,r,us,h=>by obtain⟨u,Rc,r',h1,h2,h3⟩:=h;exact⟨u,Rc,r',h1,om hx h2,lN hx h3⟩
def Lens(xs:List Dt):Prop:=∀L,Dt.l L∈xs->L.length<=maxLen
def Lens.tail{d:Dt}(h:Lens (d::xs)):Lens xs:=fun L hL=>h L (cm _ hL)
def TJ:CK->Bool
 |.sl ks _=>!bZ ks CM
 |_=>ZB
def acU(hv:TJ k=ZB)(h:KX k xs r)(hl:Lens xs)(w:World):∃w' u,Ext w w'/\yf w' k xs u r/\Lens r:=by
 cases k with
 |int k=>obtain⟨x,rfl,hx⟩:=h;exact⟨w,_,.refl w,⟨x,rfl,rfl,hx⟩,hl.tail⟩
 |bool=>obtain⟨b,rfl⟩:=h;exact⟨w,_,.refl w,⟨b,rfl,rfl⟩,hl.tail⟩
 |fn g=>exact⟨w,_,.refl w,⟨h,rfl⟩,by rw[<-show xs=r from h];exact hl⟩
 |p k z=>exact⟨w,_,.refl w,⟨h,rfl⟩,by rw[<-show xs=r from h];exact hl⟩
 |nf=>exact⟨w,_,.refl w,⟨h,rfl⟩,by rw[<-show xs=r from h];exact hl⟩
 |any=>exact⟨w,Go.undef,.refl w,h,by rw[<-show xs=r from h];exact hl⟩
 |el ks ty=>obtain⟨row,rfl,AG⟩:=h;refine⟨w.alloc (.cells (flat ks [row]).toArray ty),.pointer (ZA ⟨w.heap.size,0,ZD⟩),(Ext.refl w).alloc _,⟨row,_,rfl,rfl,AG,fP w _,fun c u hu=> ?_⟩,hl.tail⟩;have:(⟨w.heap.size,0,ZD⟩:Addr).add c=⟨w.heap.size,c,ZD⟩:=XP;rw[this,kH (heap_alloc_new w _)];exact hu
 |rl ks ty L=>
   obtain⟨rfl,Ai⟩:=h;obtain⟨_,hL,hp,Dq⟩:=zC (ρ:=⟨fun _=>0,fun _=>ZC,fun _=>[]⟩) Ai;have hT:∀w' s,RdRow w' ks.length s (flat ks L)->TRow w' ks s L:=fun w' s h=>by unfold TRow;rw[Dq];exact h
   refine⟨w.alloc (.cells (flat ks L).toArray ty),(SV.mk (ZA ⟨w.heap.size,0,ZD⟩) L.length L.length []).v,(Ext.refl w).alloc _,⟨rfl,Ai,⟨ZA ⟨w.heap.size,0,ZD⟩,L.length,L.length,[]⟩,rfl,rfl,hT _ _ ⟨bt hL.row,Nat.le_refl _,hL.len,fun h=>ST,fun a ha i u hu=> ?_⟩,fun k hk=> ?_⟩,hl⟩
   .cases ha;have:(⟨w.heap.size,0,ZD⟩:Addr).add i=⟨w.heap.size,i,ZD⟩:=XP;rw[this,kH (heap_alloc_new w _)];exact hu
   .have hk:=ay hk;simp only[SV.v,Value.ownBlock,aU]at hk;subst hk;exact fP w _
 |sl ks ty=>
   obtain⟨L,rfl,hL⟩:=h;have AE:L.length<=maxLen:=hl L bG;have hT:∀w' s,RdRow w' ks.length s (flat ks L)->TRow w' ks s L:=fun w' s h=>by
    unfold TRow;rcases cK ks with⟨h1,_⟩|⟨_,h1⟩
    .rw[h1]at hv;cases hv
    .rw[h1];exact h
   refine⟨w.alloc (.cells (flat ks L).toArray ty),(SV.mk (ZA ⟨w.heap.size,0,ZD⟩) L.length L.length []).v,(Ext.refl w).alloc _,⟨L,⟨ZA ⟨w.heap.size,0,ZD⟩,L.length,L.length,[]⟩,rfl,rfl,rfl,hT _ _ ⟨bt hL,Nat.le_refl _,AE,fun h=>ST,fun a ha i u hu=> ?_⟩,⟨hL,AE⟩,fun k hk=> ?_⟩,hl.tail⟩
   .cases ha;have:(⟨w.heap.size,0,ZD⟩:Addr).add i=⟨w.heap.size,i,ZD⟩:=XP;rw[this,kH (heap_alloc_new w _)];exact hu
   .have hk:=ay hk;simp only[SV.v,Value.ownBlock,aU]at hk;subst hk;exact fP w _
def rx:∀{ks:List CK} {xs r:List Dt},ks.all TJ=ZB->OL ks xs r->Lens xs->∀(w:World),∃w' us,Ext w w'/\lc w' ks xs us r/\Lens r
 |[],xs,r,_,h,hl,w=>⟨w,[],.refl w,⟨h,rfl⟩,by rw[<-show xs=r from h];exact hl⟩
 |k::ks,xs,r,hv,h,hl,w=>by simp only[YV,ne]at hv;obtain⟨r',h1,h2⟩:=h;obtain⟨w1,u,e1,g1,l1⟩:=acU hv.1 h1 hl w;obtain⟨w2,us,e2,g2,l2⟩:=rx hv.2 h2 l1 w1;exact⟨w2,u::us,e1.trans e2,⟨u,us,r',rfl,om e2 g1,g2⟩,l2⟩
def oK(ss:List Sh):Bool:=ss.all fun s=>s.cks.all TJ
def kK:∀{ss:List Sh} {xs:List Dt},oK ss=ZB->Py ss xs->Lens xs->∀(w:World),∃w' vals,Ext w w'/\nN w' ss xs vals
 |[],xs,_,h,_,w=>⟨w,[],.refl w,h,rfl⟩
 |.one k::ss,xs,hv,h,hl,w=>by simp only[oK,YV,ne,Sh.cks,List.all_nil,Bool.and_true]at hv;obtain⟨r,⟨r1,h1,h2⟩,h3⟩:=h;cases h2;obtain⟨w1,u,e1,g1,l1⟩:=acU hv.1 h1 hl w;obtain⟨w2,us,e2,g2⟩:=kK (ss:=ss) hv.2 h3 l1 w1;exact⟨w2,u::us,e1.trans e2,u,us,_,rfl,om e2 g1,g2⟩
 |.agg ks::ss,xs,hv,h,hl,w=>by simp only[oK,YV,ne,Sh.cks,List.all_nil,Bool.and_true]at hv;obtain⟨r,h1,h3⟩:=h;obtain⟨w1,u,e1,g1,l1⟩:=rx hv.1 h1 hl w;obtain⟨w2,us,e2,g2⟩:=kK (ss:=ss) hv.2 h3 l1 w1;exact⟨w2,_,e1.trans e2,u,us,_,rfl,lN e2 g1,g2⟩
 |.ptr ks::ss,xs,hv,h,hl,w=>by simp only[oK,YV,ne,Sh.cks,List.all_nil,Bool.and_true]at hv;obtain⟨r,h1,h3⟩:=h;obtain⟨w1,u,e1,g1,l1⟩:=rx hv.1 h1 hl w;have e2:Ext w1 (w1.alloc (.cells u.toArray 0)):=(Ext.refl w1).alloc _;obtain⟨w3,us,e3,g3⟩:=kK (ss:=ss) hv.2 h3 l1 (w1.alloc (.cells u.toArray 0));have Ap:w1.heap.size<(w1.alloc (.cells u.toArray 0)).heap.size:=fP w1 _;refine⟨w3,_,e1.trans (e2.trans e3),w1.heap.size,u,us,_,rfl,lN (e2.trans e3) g1,nD Ap e3.size,fun o v ho=> ?_,g3⟩;rw[World.cell?_of_block (a:=⟨w1.heap.size,o,ZD⟩) (e3.block _ Ap),kH (heap_alloc_new w1 _)];exact ho
def tC:∀{ss:List Sh} {xs:List Dt},(ss.all fun s=>s.cks.all fun k=>!k.isSl)=ZB->Py ss xs->Lens xs
 |[],xs,_,h=>by cases h;intro L hL;cases hL
 |s::ss,xs,hk,h=>by
   simp only[YV,ne]at hk;obtain⟨r,h1,h2⟩:=h;have ih:=tC hk.2 h2;have key:∀(ks:List CK) (xs r:List Dt),ks.all (fun k=>!k.isSl)=ZB->OL ks xs r->Lens r->Lens xs:=by
    intro ks
    induction ks with
    |nil=>intro xs r _ h hl;cases h;exact hl
    |cons k ks ihk=>
      intro xs r hk h hl;simp only[YV,ne]at hk;obtain⟨r',h1,h2⟩:=h;have l2:=ihk r' r hk.2 h2 hl;cases k with
      |int k=>
        obtain⟨x,rfl,_⟩:=h1;intro L hL;rcases ZN.1 hL with e|hL
        .cases e
        .exact l2 L hL
      |bool=>
        obtain⟨x,rfl⟩:=h1;intro L hL;rcases ZN.1 hL with e|hL
        .cases e
        .exact l2 L hL
      |sl ks ty=>simp[CK.isSl]at hk
      |rl ks ty L=>rw[h1.1];exact l2
      |el ks ty=>
        obtain⟨row,rfl,_⟩:=h1;intro L hL;rcases ZN.1 hL with e|hL
        .cases e;simp[maxLen]
        .exact l2 L hL
      |_=>rw[show xs=r' from h1];exact l2
   exact key _ xs r hk.1 h1 ih
def xg{ds:List Dt}{v0:Nat}:∀(ks:List CK) (n:Nat),ib ks (ds.drop n)->eqs ρ ds v0 n ks->(∀(m:Nat) k,ks[m]? =ZA (.int k)->Aj k (ρ.i (v0+(n+m)))=ZB)/\∀(m:Nat) k ty,ks[m]? =ZA (.sl k ty)->RowsIn k (ρ.l (v0+(n+m)))
 |[],n,_,_=>⟨fun m k h=>by simp at h,fun m k ty h=>by simp at h⟩
 |k::ks,n,h,he=>by
   cases hd:ds.drop n with
   |nil=>rw[hd]at h;cases k<;>exact h.elim
   |cons d r=>
     rw[hd]at h;obtain⟨d1,d2⟩:=fq hd;have Ij:ib ks r/\eqs ρ ds v0 (n+1) ks/\(∀k',k=.int k'->Aj k' (ρ.i (v0+n))=ZB)/\∀k' ty,k=.sl k' ty->RowsIn k' (ρ.l (v0+n)):=by
      cases k with
      |int k=>
        cases d with
        |z x=>exact⟨h.2,he.2,fun k' e=>(by cases e;rw[he.1,PB d1];exact h.1),fun k' ty e=>(by cases e)⟩
        |l L=>exact h.elim
      |sl ks0 ty=>
        cases d with
        |z x=>exact h.elim
        |l L=>exact⟨h.2,he.2,fun k' e=>(by cases e),fun k' ty e=>(by cases e;rw[he.1,SS d1];exact h.1)⟩
      |bool=>exact⟨h,he.2,fun k' e=>(by cases e),fun k' ty e=>(by cases e)⟩
      |_=>exact⟨h,he,fun k' e=>(by cases e),fun k' ty e=>(by cases e)⟩
     obtain⟨m1,m2,m3,m4⟩:=Ij;obtain⟨i1,i2⟩:=xg ks (n+1) (by rw[d2];exact m1) m2;refine⟨fun m k' hm=> ?_,fun m k' ty hm=> ?_⟩
     .cases m with
      |zero=>simp only[cH,aU]at hm;exact m3 k' hm
      |succ m=>have:=i1 m k' XN;rwa [show n+(m+1)=n+1+m by omega]
     .cases m with
      |zero=>simp only[cH,aU]at hm;exact m4 k' ty hm
      |succ m=>have:=i2 m k' ty XN;rwa [show n+(m+1)=n+1+m by omega]
def RR(args res:List Sh)(pre:List Dt->Prop):Prop:=(args.all fun a=>a.cks.all fun k=>!k.isSl)=ZB\/((∀xs,pre xs->Lens xs)/\oK args=ZB)\/(res.all fun a=>a.cks.all fun k=>match k with|.int _=>ZC|.sl _ _=>ZC|_=>ZB)=ZB
def ai5{ss:List Sh}(h:(ss.all fun a=>a.cks.all fun k=>!k.isSl)=ZB):oK ss=ZB:=by unfold oK;rw[Co]at h ⊢;intro s hs;have:=h s hs;rw[Co]at this ⊢;intro k hk;have:=this k hk;cases k<;>first|rfl|(simp[CK.isSl]at this)
def SmOk.of_calls(hl:RR s.args s.res (sp.pre s.key))
  (h:∀xs vals w,nN w s.args xs vals->sp.pre s.key xs->sp.hw w->
   (∃v w',(callFunc s.f vals.toArray).run P w=.ok (.value v) w'/\RetOk s.res s.tup w w' (sp.F s.key xs) v)\/((callFunc s.f vals.toArray).run P w=.ok (.enter s.f vals.toArray) w/\Calls P s.f vals.toArray w fun e w'=>∃v,e=.returned v/\RetOk s.res s.tup w w' (sp.F s.key xs) v)) (hn:s.inp=ZD:=by rfl):SmOk P sp s:=by
 refine⟨fun _=>h,fun ks ty e=>(by rw[hn]at e;cases e),fun xs CD CF ρ v0 he=> ?_⟩;have AE:(Lens xs/\oK s.args=ZB)\/((∀(n:Nat) k,s.ks[n]? =ZA (.int k)->Aj k (ρ.i (v0+n))=ZB)/\(∀(n:Nat) ks ty,s.ks[n]? =ZA (.sl ks ty)->RowsIn ks (ρ.l (v0+n)))):=by
  rcases hl with hl|hl|hl
  .exact .inl ⟨tC hl CD,ai5 hl⟩
  .exact .inl ⟨hl.1 xs CF,hl.2⟩
  .right;have key:∀k∈s.ks,(match k with|.int _=>ZC|.sl _ _=>ZC|_=>ZB)=ZB:=fun k hk=>by
    obtain⟨a,ha,hk⟩:=List.mem_flatMap.1 hk;exact Co.1 (Co.1 hl a ha) k hk
   exact⟨fun n k hk=>(by have:=key _ (ew hk);cases this),fun n ks ty hk=>(by have:=key _ (ew hk);cases this)⟩
 rcases AE with⟨AE,Ao⟩|P1
 rotate_left
 .exact P1
 obtain⟨wi,hwi⟩:=sp.hi;obtain⟨w,vals,hxi,hw⟩:=kK Ao CD AE wi;have hres:ib (s.res.flatMap (·.cks)) (sp.F s.key xs):=by
  rcases h xs vals w hw CF (sp.hx _ _ hxi hwi)with⟨v,w',_,hr⟩|⟨_,hc⟩
  .exact hr.rng
  .obtain⟨e,w',_,⟨v,_,hr⟩,_⟩:=hc [];exact hr.rng
 have Gx:eqs ρ (sp.F s.key xs) v0 0 (s.res.flatMap (·.cks)):=he;have:=xg (ρ:=ρ) (ds:=sp.F s.key xs) (v0:=v0) (s.res.flatMap (·.cks)) 0 (by simpa using hres) Gx;simpa[Sm.ks]using this
def ba:List VK->(List Dt->Prop)->Prop
 |[],p=>p []
 |.int k::l,p=>∀x,Aj k x=ZB->ba l fun r=>p (.z x::r)
 |.bool::l,p=>∀b:Bool,ba l fun r=>p (.z (Ay b)::r)
 |.list ks::l,p=>∀L,RowsIn ks L->ba l fun r=>p (.l L::r)
def iE:∀{l:List VK} {p:List Dt->Prop},ba l p->∀xs,okDs l xs->p xs
 |[],p,h,[],_=>h
 |.int k::l,p,h,.z x::r,ho=>iE (h x ho.1) r ho.2
 |.bool::l,p,h,.z x::r,ho=>by
   rcases ho.1 with rfl|rfl
   .exact iE (h ZC) r ho.2
   .exact iE (h ZB) r ho.2
 |.list ks::l,p,h,.l L::r,ho=>iE (h L ho.1) r ho.2
 |[],p,h,_::_,ho=>ho.elim
 |.int _::_,p,h,[],ho=>ho.elim
 |.bool::_,p,h,[],ho=>ho.elim
 |.list _::_,p,h,[],ho=>ho.elim
 |.int _::_,p,h,.l _::_,ho=>ho.1.elim
 |.bool::_,p,h,.l _::_,ho=>ho.1.elim
 |.list _::_,p,h,.z _::_,ho=>ho.1.elim
def Pw:List Sm->Bool
 |[]=>ZB
 |s::l=>(l.all fun x=>!Nat.beq x.key s.key)&&Pw l
def aij:∀{l:List Sm},Pw l=ZB->∀s∈l,∀s'∈l,s.key=s'.key->s=s'
 |[],_,s,hs,_,_,_=>by cases hs
 |x::l,h,s,hs,s',Bi,he=>by
   simp only[Pw,ne,Co,ZL]at h;rcases ZN.1 hs with rfl|hs<;>rcases ZN.1 Bi with rfl|Bi
   .rfl
   .have:=h.1 s' (by assumption);rw[he]at this;simp at this
   .have:=h.1 s (by assumption);rw[he]at this;simp at this
   .exact aij h.2 s (by assumption) s' (by assumption) he
def zX(ss:List Sh):List V×List VK×List RowOb×List (List C):=Cl 0 0 0 ss
def avD(hints:List (Nat×List Pl)):Option E:=match aj 999996 hints with
 |some [.gone l,.gone n,.gone c,.gone z]=>ZA (.eq (.get (.g l) (.w n) c) (.p z))
 |_=>ZD
def T2(hints:List (Nat×List Pl))(k:Kw->Tr)(kw:Kw):Tr:=match avD hints with
 |some e=>AB e (fun b kw=>if b then k kw else .stuck 261) kw
 |none=>k kw
def afD{ρ:Env}{G:Env->E->Prop}{I:Nat->List Dt->Prop}{k:Kw->Tr}{kw:Kw}(h:(T2 hints k kw).holds sp G ρ I)(hg:Good sp sm ρ kw):∃Ak,(k Ak).holds sp G ρ I/\Good sp sm ρ Ak/\Ak.vk=kw.vk:=by
 unfold T2 at h;split at h
 .obtain⟨Ak,h1,h2,h3,_⟩:=aC _ _ _ h hg;split at h1
  .exact⟨Ak,h1,h2,h3⟩
  .exact h1.elim
 .exact⟨kw,h,hg,rfl⟩
def amO(ty:List (Nat×TI))(sm:List Sm)(fns:List (Nat×Func×List (Nat×List Pl)×List (Nat×List Pl)))(hints cuts:List (Nat×List Pl))(fuel:Nat)(fn:Func)(args res:List Sh):Tr:=T2 hints (MO ⟨ty,sm,res,(zX args).2.2.2,hints,cuts,fns⟩ fuel fn (zX args).1 ((zX args).2.2.1.map .row)) ⟨if(aj 999997 hints).isSome then[(.tt ZB,ZB)]else[],[],(zX args).2.1,0⟩
def cG(ty:List (Nat×TI))(sm:List Sm)(fns:List (Nat×Func×List (Nat×List Pl)×List (Nat×List Pl)))(hints cuts:List (Nat×List Pl))(fuel:Nat)(fn:Func)(args res:List Sh)(tup:Bool)(vks:List VK)(t:Tr):Prop:=
 (amO ty sm fns hints cuts fuel fn args res,(zX args).2.1,t.sc vks.length&&(Jl args&&((Nat.beq res.length 1 == !tup)&&(Pw sm&&(!(fn.name== "runtime.NumGoroutine") &&!fn.body.isNone)))))=(t,vks,ZB)
def FJ{ty:List (Nat×TI)}{args res:List Sh}{tup:Bool}{t:Tr}
  (h:(amO ty sm fns hints cuts fuel fn args res,(zX args).2.1,t.sc vks.length&&(Jl args&&((Nat.beq res.length 1 == !tup)&&(Pw sm&&(!(fn.name== "runtime.NumGoroutine") &&!fn.body.isNone)))))=(t,vks,ZB)):cG ty sm fns hints cuts fuel fn args res tup vks t:=h
abbrev Cn(t:Tr)(sp:Spec)(vks:List VK)(xs:List Dt)(F:List Dt->List Dt):Prop:=∀ρ,varsD ρ 0 vks=xs->t.asks sp (fun ρ e=>e.D ρ=F xs) ρ fun _ _=>False
def FD:∀p∈([]:List (Nat×Func×List (Nat×List Pl)×List (Nat×List Pl))),P.funcs[p.1]? =ZA p.2.1:=fun _ h=>by cases h
def Da{g:Nat}{x:List (Nat×List Pl)×List (Nat×List Pl)}{l:List (Nat×Func×List (Nat×List Pl)×List (Nat×List Pl))}(h:P.funcs[g]? =ZA fn)(h':∀p∈l,P.funcs[p.1]? =ZA p.2.1):∀p∈(g,fn,x)::l,P.funcs[p.1]? =ZA p.2.1:=List.forall_mem_cons.2 ⟨h,h'⟩
def xT{N1:Spec}{f:Nat}{args res:List Sh}{tup:Bool}{ty:List (Nat×TI)}{t:Tr}{F:List Dt->List Dt}{pre:List Dt->Prop}(hm:P.follows .mixedOrders=ZB)(hT:∀t i,(t,i)∈ty->TIok P t i)(hS:∀s∈sm,SmOk P N1 s)(hf:P.funcs[f]? =ZA fn)
  (Bv:∀p∈fns,P.funcs[p.1]? =ZA p.2.1) (ht:cG ty sm fns hints cuts fuel fn args res tup vks t)
  (h:ba vks fun xs=>pre xs->∀ρ,varsD ρ 0 vks=xs->t.asks N1 (fun ρ e=>e.D ρ=F xs) ρ fun _ _=>False) (xs:List Dt) (vals:List Value) (w:World) (hw:nN w args xs vals) (CF:pre xs) (Nc:N1.hw w):
  (callFunc f vals.toArray).run P w=.ok (.enter f vals.toArray) w/\Calls P f vals.toArray w fun e w'=>∃v,e=.returned v/\RetOk res tup w w' (F xs) v:=by
 simp only[cG,Prod.mk.injEq]at ht;obtain⟨ht1,hv1,O4⟩:=ht;simp only[ne,cb,ZL]at O4;obtain⟨hsc,Ai,htup,AO,Hk,Hg⟩:=O4;refine⟨ez hf Hk Hg _ w,?_⟩;obtain⟨svs,IV,E6,Lg,Gu⟩:=vh Ai hw 0 0 0;have Ic:(Cl 0 0 0 args).2.1=vks:=hv1;rw[Ic]at Gu;let ρ0:Env:=Env.put ⟨fun _=>0,fun _=>ZC,fun _=>[]⟩ 0 xs;have Qx:∀ρ',Ag vks.length ρ0 ρ'->varsD ρ' 0 vks=xs:=fun ρ' ha=>mD Gu.ok (by rw[be];exact ha);obtain⟨ρ',h1,h2⟩:=ad5 (G:=fun ρ e=>e.D ρ=F xs) t vks.length ρ0 (fun _ _=>False) hsc (fun ρ' ha=>iE h xs Gu.ok CF ρ' (Qx ρ' ha));let j:J:=⟨fun _=>ZD,fun id=>svs[id]?,fun b=>IV[b]?,⟨fun _=>ZD,S3 w⟩⟩
 obtain⟨a1,a2⟩:=Gu.at' ρ' j (Qx ρ' h1) (fun i s hi=>by rw[be];exact hi);obtain⟨a3,a4⟩:=a1 (fun i k hi=>by rw[be];exact hi);rw[<-ht1]at h2;have Qy:Vk ρ' vks:=by
  have hd:=Qx ρ' h1;have ho:=Gu.ok;have key:∀(l:List VK) (n:Nat),okDs l (varsD ρ' n l)->(∀(i:Nat) k,l[i]? =ZA (.int k)->Aj k (ρ'.i (n+i))=ZB)/\∀(i:Nat) ks,l[i]? =ZA (.list ks)->RowsIn ks (ρ'.l (n+i)):=by
   intro l
   induction l with
   |nil=>intro n _;exact⟨fun i k h=>by simp at h,fun i k h=>by simp at h⟩
   |cons x l ih=>
     intro n h;obtain⟨i1,i2⟩:=ih (n+1) h.2;refine⟨fun i k hk=> ?_,fun i ks hk=> ?_⟩
     .cases i with
      |zero=>simp at hk;subst hk;exact h.1
      |succ i=>have:=i1 i k (by simpa using hk);rwa [show n+(i+1)=n+1+i by omega]
     .cases i with
      |zero=>simp at hk;subst hk;exact h.1
      |succ i=>have:=i2 i ks (by simpa using hk);rwa [show n+(i+1)=n+1+i by omega]
  obtain⟨k1,k2⟩:=key _ 0 (by rw[hd];exact ho);exact⟨fun i k hk=>by have:=k1 i k hk;rwa [be]at this,fun i k hk=>by have:=k2 i k hk;rwa [be]at this⟩
 obtain⟨Ak,h2,CC,_⟩:=afD h2 ⟨fun p hp=>(by
   split at hp
   .rw[cV.1 hp];rfl
   .cases hp),by rw[hv1];exact Qy,fun p hp=>Yi⟩
 refine arO (hF:=Bv) (ρ:=ρ') (j:=j) (kw:=Ak) (cx:=⟨ty,sm,res,(zX args).2.2.2,hints,cuts,fns⟩) hm hT hS (aij AO) hf a3 Lg.symm htup h2 CC w ⟨fun b ob hb=> ?_,fun b hb=> ?_,fun b=>rfl,rfl,fun b s hs=> ?_,fun b cs hb=> ?_⟩ Nc
 .rw[iO,Av]at hb;obtain⟨q,hq,rfl⟩:=hb;have Ap:b<svs.length:=by rw[Gu.len];exact(bX.1 hq).1
  obtain⟨g1,g2⟩:=a2 b svs[b] q (Az Ap) hq;exact⟨q,svs[b],rfl,g1,Az Ap,g2 _⟩
 .rw[List.length_map]at hb;exact bN (by rw[Gu.len];exact hb)
 .exact Gu.zz s (ew hs)
 .exact a4 b cs hb
def sm0:∀s∈([]:List Sm),SmOk P sp s:=fun _ h=>by cases h
def EK{l:List Sm}(h:SmOk P sp s)(h':∀s∈l,SmOk P sp s):∀x∈s::l,SmOk P sp x:=List.forall_mem_cons.2 ⟨h,h'⟩
def Uy{N1:Spec}{ty:List (Nat×TI)}{t:Tr}{F:List Dt->List Dt}{pre:List Dt->Prop}(hF:sp.F s.key=F)(hP:sp.pre s.key=pre)(hm:P.follows .mixedOrders=ZB)(hT:∀t i,(t,i)∈ty->TIok P t i)(hS:∀s∈sm,SmOk P N1 s)(hf:P.funcs[s.f]? =ZA fn)(Bv:∀p∈fns,P.funcs[p.1]? =ZA p.2.1)(ht:cG ty sm fns hints cuts fuel fn s.args s.res s.tup vks t)(hl:RR s.args s.res pre)(h:ba vks fun xs=>pre xs->∀ρ,varsD ρ 0 vks=xs->t.asks N1 (fun ρ e=>e.D ρ=F xs) ρ fun _ _=>False)(hn:s.inp=ZD:=by rfl)(hW:∀w,sp.hw w->N1.hw w:=by exact fun _ _=>trivial):SmOk P sp s:=
 SmOk.of_calls (by rw[hP];exact hl) (fun xs vals w hw CF Nc=>.inr (by rw[hF];rw[hP]at CF;exact xT hm hT hS hf Bv ht h xs vals w hw CF (hW w Nc))) hn
def SmOk.pureW{F:List Dt->List Dt}(hF:sp.F s.key=F)(hl:(s.args.all fun a=>a.cks.all fun k=>!k.isSl)=ZB)(hr:((s.res.flatMap (·.cks)).filter CK.isSl)=[])(h:∀xs vals w,nN w s.args xs vals->sp.hw w->∃X,((callFunc s.f vals.toArray).run P w=.ok (.value X) w\/((callFunc s.f vals.toArray).run P w=.ok (.enter s.f vals.toArray) w/\Calls P s.f vals.toArray w fun e w'=>e=.returned X/\Ext w w'))/\ib (s.res.flatMap (·.cks)) (F xs)/\∀(ρ:Env) v0 nid j,eqs ρ (F xs) v0 0 (s.res.flatMap (·.cks))->(gN s.res s.tup v0 nid).den ρ j=ZA X)(hn:s.inp=ZD:=by rfl):SmOk P sp s:=by
 refine SmOk.of_calls (.inl hl) (fun xs vals w hw _ hh=> ?_) hn;obtain⟨X,h1,h2,h3⟩:=h xs vals w hw hh;rw[hF];have ret:∀w',Ext w w'->RetOk s.res s.tup w w' (F xs) X:=fun w' hx=>⟨hx,h2,[],by rw[hr];rfl,fun ρ v0 nid j he _=>h3 ρ v0 nid j he,fun ρ v0 _ i u r hu=>by simp at hu,fun i i' u u' k hu=>(by simp at hu),fun u hu=>(by cases hu)⟩
 rcases h1 with h1|⟨h1,hc⟩
 .exact .inl ⟨X,w,h1,ret w (.refl w)⟩
 .exact .inr ⟨h1,hc.mono fun e w' he=>⟨X,he.1,ret w' he.2⟩⟩
def SmOk.pure{F:List Dt->List Dt}(hF:sp.F s.key=F)(hl:(s.args.all fun a=>a.cks.all fun k=>!k.isSl)=ZB)(hr:((s.res.flatMap (·.cks)).filter CK.isSl)=[])(h:∀xs vals w,nN w s.args xs vals->∃X,((callFunc s.f vals.toArray).run P w=.ok (.value X) w\/((callFunc s.f vals.toArray).run P w=.ok (.enter s.f vals.toArray) w/\Calls P s.f vals.toArray w fun e w'=>e=.returned X/\Ext w w'))/\ib (s.res.flatMap (·.cks)) (F xs)/\∀(ρ:Env) v0 nid j,eqs ρ (F xs) v0 0 (s.res.flatMap (·.cks))->(gN s.res s.tup v0 nid).den ρ j=ZA X)(hn:s.inp=ZD:=by rfl):SmOk P sp s:=
 SmOk.pureW hF hl hr (fun xs vals w hw _=>h xs vals w hw) hn
def gY:Value->Bool
 |.int k z=>Aj k z
 |_=>ZB
def gP:Value->Bool
 |.agg cs=>cs.toList.all gY
 |v=>gY v
def iK:Value->Bool
 |.tuple vs=>vs.toList.all gP
 |v=>gP v
def RetOk.says{w:World}{v:Value}(h:RetOk [.one .bool] ZC w w' [.z 1] v):v=.bool ZB:=by obtain⟨svs,_,h1,_⟩:=h.svs;have:=h1 ⟨fun _=>0,fun _=>ZB,fun _=>[]⟩ 0 0 ⟨fun _=>ZD,fun id=>svs[id]?,fun _=>ZD,Gh.zero⟩ ⟨rfl,trivial⟩ (fun i u hi=>by rw[be];exact hi);cases this;rfl
@[simp] theorem b2i_eq_iff {a b:Bool}:(Ay a=Ay b)=(a=b):=propext ⟨oq,fun h=>by rw[h]⟩
@[simp] theorem b2i_one {a:Bool}:(Ay a==1)=a:=oP a
def zb{a b:Bool}(h:a=b):[Dt.z (Ay a)]=[Dt.z (Ay b)]:=by rw[h]
def E.vs(n:Nat):Nat->E->E
 |0,t=>t
 |k+1,t=>.cons (.w n) (E.vs (n+1) k t)
def S1:=aI (@List.getElem?_cons_zero Dt) (aI (@List.getElem?_cons_succ Dt) (aI (@List.cons_append Dt) (aI (@List.nil_append Dt) (aI (@List.cons_append CK) (aI (@List.nil_append CK) (aI be (aI ZP (aI and_true (aI true_and @b2i_one)))))))))
def kdN:Nat->Option IntKind
 |0=>ZA .i8
 |1=>ZA .u64
 |2=>ZA .i64
 |3=>ZA .u8
 |4=>ZA .i32
 |5=>ZA .u32
 |_=>ZD
def kN:Nat->Nat->List CE
 |0,_=>[]
 |n+1,m=>kdN (m % 10)::kN n (m / 10)
def zN:Nat->Nat->List C
 |0,_=>[]
 |n+1,m=>(match kdN (m % 10)with
   |some k=>.int k (.p 0)
   |none=>.bool (.tt ZC))::zN n (m / 10)
def E.zs:List Int->E->E
 |[],t=>t
 |z::l,t=>.cons (.p z) (E.zs l t)
def E.zr:Nat->E->E
 |0,t=>t
 |n+1,t=>.cons (.p 0) (E.zr n t)
def E.rgs(d x:E):Nat->Nat->E->E->E->E
 |_,_,_,.nil,t=>t
 |n+1,r,.nil,o,t=>E.rgs d x n (r+1) x o t
 |n+1,r,.cons y ys,.cons o os,t=>.cons (.ite (.eq d (.p r)) y o) (E.rgs d x n r ys os t)
 |_,_,_,_,t=>t
def E.rg(d x o t:E):E:=E.rgs d x 120 0 x o t
def E.pv(n:Nat):List Int->E->E
 |[],t=>t
 |z::l,t=>.and (.eq (.w n) (.p z)) (E.pv (n-1) l t)
def E.gs(l i:E)(c:Nat):Nat->E->E
 |0,t=>t
 |k+1,t=>.cons (.get l i c) (E.gs l i (c+1) k t)
def E.ins(l i t:E):E:=E.gs l i 0 4 (.j (.getb l i 4) (E.gs l i 5 4 t))
def E.sv(a:Nat):Nat->E
 |0=>.nil
 |k+1=>.cons (.w a) (E.sv (a+9) k)
def E.tn(i:E)(a:Nat):Nat->E->E
 |0,t=>t
 |k+1,t=>.cons (.nth i (E.sv a 11)) (E.tn i (a+1) k t)
def E.sg(l i:E)(c:Nat):Nat->E
 |0=>.nil
 |k+1=>.cons (.get l i c) (E.sg l i (c+9) k)
def E.tg(e l i:E)(c:Nat):Nat->E->E
 |0,t=>t
 |k+1,t=>.cons (.nth e (E.sg l i c 11)) (E.tg e l i (c+1) k t)
def E.iv(c:E)(a b:Nat):Nat->E->E
 |0,t=>t
 |k+1,t=>.cons (.ite c (.w a) (.w b)) (E.iv c (a+1) (b+1) k t)
def EqT(P:Program)(t:Nat)(z:List C):Prop:=(∀vs us,aD vs z->aD us z->∀w,(Op.equal t (.agg vs.toArray) (.agg us.toArray)).run P w=.ok (CB vs us) w)/\P.eqGuardType P.depth t=ZC
def KyT(P:Program)(t:Nat)(z:List C):Prop:=∀vs,aD vs z->∀b w,(Instr.checkKey b 10000 t (.agg vs.toArray)).run P w=.ok () w
def Ch{f:Nat->List C->Prop}:∀q∈([]:List (Nat×List C)),f q.1 q.2:=fun _ h=>by cases h
def Ed{f:Nat->List C->Prop}{l:List (Nat×List C)}(h:f t z)(h':∀q∈l,f q.1 q.2):∀q∈(t,z)::l,f q.1 q.2:=List.forall_mem_cons.2 ⟨h,h'⟩
def UG{f:Nat->List C->Prop}{es:List (Nat×List C)}(he:∀q∈es,f q.1 q.2){b:Bool}(h:(!b||es.any fun q=>Nat.beq t q.1&&dU z q.2)=ZB)(hb:b=ZB):∃z',dU z z'=ZB/\f t z':=by rw[hb,Bool.not_true,Bool.false_or,List.any_eq_true]at h;obtain⟨q,hq,h⟩:=h;rw[ne]at h;obtain rfl:=Ah h.1;exact⟨q.2,h.2,he q hq⟩
def bK{l:List (Nat×TI)}{es ky:List (Nat×List C)}(he:∀q∈es,EqT P q.1 q.2)(hk:∀q∈ky,KyT P q.1 q.2)(h:(l.all fun p=>MH P p.1 p.2&&((!p.2.eqok||es.any fun q=>Nat.beq p.1 q.1&&dU p.2.zero q.2)&&(!p.2.keyok||ky.any fun q=>Nat.beq p.1 q.1&&dU p.2.zero q.2)))=ZB):∀t i,(t,i)∈l->TIok P t i:=fun t i hm=>by
 have h1:=Co.1 h (t,i) hm;rw[ne,ne]at h1;refine asr h1.1 (fun hb=> ?_) (fun hb=> ?_) (fun hb=> ?_)
 .obtain⟨z,hz,hE⟩:=UG he h1.2.1 hb;exact fun vs us hv hu=>hE.1 vs us (jX hz hv) (jX hz hu)
 .obtain⟨z,hz,hE⟩:=UG he h1.2.1 hb;exact hE.2
 .obtain⟨z,hz,hE⟩:=UG hk h1.2.2 hb;exact fun vs hv=>hE vs (jX hz hv)
def T0:List Dt->Prop:=fun _=>True
structure Cd where
 f:Nat
 a:List Sh
 r:List Sh
 F:List Dt->List Dt
 p:List Dt->Prop
def tp:List Sh->Bool
 |[_]=>ZC
 |_=>ZB
def Cd.m(c:Cd)(key:Nat):Sm:=⟨c.f,key,c.a,c.r,tp c.r⟩
def Cd.Ok(c:Cd)(P:Program):Prop:=∀{sp:Spec} {key:Nat},sp.F key=c.F->sp.pre key=c.p->SmOk P sp (c.m key)
def JB:List Cd->Nat->Cd
 |[],_=>⟨0,[],[],fun _=>[],fun _=>True⟩
 |c::_,0=>c
 |_::l,n+1=>JB l n
def Sp(l:List Cd):Spec:={F:=fun k=>(JB l k).F,pre:=fun k=>(JB l k).p}
def FH:Nat->List Cd->List Sm
 |_,[]=>[]
 |n,c::l=>c.m n::FH (n+1) l
def Om(P:Program)(l:List Cd):Prop:=∀(i:Nat) c,l[i]? =ZA c->c.Ok P
def AR:Om P []:=fun i c h=>by simp at h
def Aq{c:Cd}{l:List Cd}(h:c.Ok P)(h':Om P l):Om P (c::l):=fun i d hd=>by
 cases i with
 |zero=>simp at hd;subst hd;exact h
 |succ i=>exact h' i d (by simpa using hd)
def amW:∀{l:List Cd} {i:Nat} {c:Cd},l[i]? =ZA c->JB l i=c
 |[],_,_,h=>by simp at h
 |_::_,0,_,h=>by simpa[JB]using h
 |_::l,i+1,_,h=>by rw[JB];exact amW Xw
def amY{L:List Cd}:∀{l:List Cd} {n:Nat},(∀(i:Nat) c,l[i]? =ZA c->L[n+i]? =ZA c)->Om P l->∀s∈FH n l,SmOk P (Sp L) s
 |[],_,_,_,_,h=>by cases h
 |c::l,n,hL,h,s,hs=>by
   rcases ZN.1 hs with rfl|hs
   .have e:JB L n=c:=amW (hL 0 c rfl);exact h 0 c rfl (congrArg Cd.F e) (congrArg Cd.p e)
   .exact amY (fun i c hc=>by rw[Nat.add_assoc,Nat.add_comm 1];exact hL (i+1) c Yk) (fun i c hc=>h (i+1) c Yk) s hs
def Lv:(∀x,T0 x=True)/\(∀(l:List Cd) k,(Sp l).F k=(JB l k).F)/\(∀(l:List Cd) k,(Sp l).pre k=(JB l k).p)/\(∀c l,JB (c::l) 0=c)/\∀c l n,JB (c::l) (n+1)=JB l n:=⟨fun _=>rfl,fun _ _=>rfl,fun _ _=>rfl,fun _ _=>rfl,fun _ _ _=>rfl⟩
def GJ{c:Cd}{l:List Cd}{ty:List (Nat×TI)}(t:Tr)(vks:List VK)(hT:∀t i,(t,i)∈ty->TIok P t i)(hS:Om P l)(hf:P.funcs[c.f]? =ZA fn)(Bv:∀p∈fns,P.funcs[p.1]? =ZA p.2.1)(ht:cG ty (FH 0 l) fns hints cuts fuel fn c.a c.r (tp c.r) vks t)(h:ba vks fun xs=>c.p xs->∀ρ,varsD ρ 0 vks=xs->t.asks (Sp l) (fun ρ e=>e.D ρ=c.F xs) ρ fun _ _=>False)(hl:RR c.a c.r c.p:=by exact .inl rfl)(hm:P.follows .mixedOrders=ZB:=by kernel_rfl)(hn:(c.m 0).inp=ZD:=by rfl):c.Ok P:=
 fun hF hP=>Uy (s:=c.m _) hF hP hm hT (amY (fun i c hc=>by rw[be];exact hc) hS) hf Bv ht hl h hn
def A4{c:Cd}{l:List Cd}{ty:List (Nat×TI)}(t:Tr)(vks:List VK)(hT:∀t i,(t,i)∈ty->TIok P t i)(hS:Om P l)(hf:P.funcs[c.f]? =ZA fn)(h:ba vks fun xs=>c.p xs->∀ρ,varsD ρ 0 vks=xs->t.asks (Sp l) (fun ρ e=>e.D ρ=c.F xs) ρ fun _ _=>False)(ht:cG ty (FH 0 l) [] [] [] 200 fn c.a c.r (tp c.r) vks t:=by exact FJ (by kernel_rfl))(hl:RR c.a c.r c.p:=by exact .inl rfl)(hm:P.follows .mixedOrders=ZB:=by kernel_rfl)(hn:(c.m 0).inp=ZD:=by rfl):c.Ok P:=
 GJ t vks hT hS hf FD ht h hl hm hn
def rdZ(k:Int->List Dt->List Dt):List Dt->List Dt
 |.z x::r=>k x r
 |_=>[]
def rdB(k:Bool->List Dt->List Dt):List Dt->List Dt
 |.z x::r=>k (x==1) r
 |_=>[]
def rdL(k:LL->List Dt->List Dt):List Dt->List Dt
 |.l x::r=>k x r
 |_=>[]
end
def Iv:=aI @Dt.z.injEq (aI @Dt.l.injEq @b2i_eq_iff)
def AT:=aI @varsD.eq_1 (aI @varsD.eq_2 (aI @varD.eq_1 (aI @varD.eq_2 (aI @varD.eq_3 (aI (@List.cons.injEq Dt) (aI @and_true (aI @Dt.z.injEq (aI @Dt.l.injEq @b2i_eq_iff))))))))
def DA:TI:=⟨ZC,1,[.int .i64 (.p 0)],[],ZD,ZA .i64,ZC,ZC,ZD,8,ZC,ZD,ZC,0⟩
def hJ:TI:=⟨ZC,1,[.int .u64 (.p 0)],[],ZD,ZA .u64,ZC,ZC,ZD,8,ZC,ZD,ZC,0⟩
def lm:TI:=⟨ZB,4,(zN 4 2211),[(0,43),(1,43),(2,2),(3,2)],ZD,ZD,ZC,ZC,ZD,32,ZC,ZD,ZC,0⟩
def T7:TI:=⟨ZB,2,[.int .u64 (.p 0),.int .u64 (.p 0)],[(0,43),(1,43)],ZD,ZD,ZC,ZC,ZD,16,ZC,ZD,ZC,0⟩
def T6:TI:=⟨ZB,2,[.int .i64 (.p 0),.int .i64 (.p 0)],[(0,2),(1,2)],ZD,ZD,ZC,ZC,ZD,16,ZC,ZD,ZC,0⟩
def C1:TI:=⟨ZC,1,[.int .i64 (.p 0)],[],ZD,ZA .i64,ZC,ZC,ZD,8,ZC,ZD,ZC,0⟩
def EM:TI:=⟨ZC,1,[.bool (.tt ZC)],[],ZD,ZD,ZC,ZB,ZD,1,ZC,ZD,ZC,0⟩
def hZ:TI:=⟨ZC,1,[.int .i8 (.p 0)],[],ZD,ZA .i8,ZC,ZC,ZD,1,ZC,ZD,ZC,0⟩
def Rz:TI:=⟨ZC,1,[.int .u64 (.p 0)],[],ZD,ZA .u64,ZC,ZC,ZD,8,ZC,ZD,ZC,0⟩
def oQ:TI:=⟨ZB,2,[.int .u64 (.p 0),.int .u64 (.p 0)],[(0,43),(1,43)],ZD,ZD,ZC,ZC,ZD,16,ZC,ZD,ZC,0⟩
def SE:TI:=⟨ZB,6,(zN 6 112211),[(0,57),(4,59)],ZD,ZD,ZC,ZC,ZD,48,ZC,ZD,ZC,0⟩
def rK:TI:=⟨ZB,9,(zN 9 220090000),[(0,39),(1,39),(2,39),(3,39),(4,4),(5,39),(6,39),(7,3),(8,3)],ZD,ZD,ZB,ZC,ZD,24,ZC,ZD,ZC,0⟩
def OJ:TI:=⟨ZC,1,[.int .i64 (.p 0)],[],ZD,ZA .i64,ZC,ZC,ZD,8,ZC,ZD,ZC,0⟩
def iM:TI:=⟨ZB,6,(zN 6 112211),[(0,57),(4,59)],ZD,ZD,ZB,ZC,ZD,48,ZC,ZD,ZC,0⟩
def yL:TI:=⟨ZB,9,(zN 9 221122110),[(0,39),(1,61),(7,3),(8,3)],ZD,ZD,ZB,ZC,ZD,72,ZC,ZD,ZC,0⟩
def OI:TI:=⟨ZB,99,(zN 99 221122110221122110221122110221122110221122110221122110221122110221122110221122110221122110221122110),[],ZA (11,63),ZD,ZC,ZC,ZD,792,ZC,ZD,ZC,0⟩
def OH:TI:=⟨ZB,72,(zN 72 221122110221122110221122110221122110221122110221122110221122110221122110),[],ZA (8,63),ZD,ZC,ZC,ZD,576,ZC,ZD,ZC,0⟩
def SD:TI:=⟨ZB,171,(zN 171 221122110221122110221122110221122110221122110221122110221122110221122110221122110221122110221122110221122110221122110221122110221122110221122110221122110221122110221122110),[(0,64),(99,65)],ZD,ZD,ZC,ZC,ZD,1368,ZC,ZD,ZC,0⟩
def vT:TI:=⟨ZC,1,[.nsl],[],ZD,ZD,ZC,ZC,ZA 41,24,ZC,ZD,ZC,0⟩
def vS:TI:=⟨ZB,2,[.int .i64 (.p 0),.nsl],[(0,3),(1,22)],ZD,ZD,ZC,ZC,ZD,32,ZC,ZD,ZC,0⟩
def KB:TI:=⟨ZC,1,[.int .u8 (.p 0)],[],ZD,ZA .u8,ZC,ZC,ZD,1,ZC,ZD,ZC,0⟩
def Pm:TI:=⟨ZC,1,[.nsl],[],ZD,ZD,ZC,ZC,ZA 5,24,ZC,ZD,ZC,0⟩
def VE:TI:=⟨ZC,1,[.np],[],ZD,ZD,ZC,ZC,ZD,8,ZC,ZD,ZC,1⟩
def Ua:TI:=⟨ZB,3,[.int .u64 (.p 0),.nsl,.bool (.tt ZC)],[(0,43),(1,25),(2,4)],ZD,ZD,ZC,ZC,ZD,40,ZC,ZD,ZC,0⟩
def T9:TI:=⟨ZB,12,[.int .u64 (.p 0),.nsl,.bool (.tt ZC),.int .u64 (.p 0),.nsl,.bool (.tt ZC),.int .u64 (.p 0),.nsl,.bool (.tt ZC),.int .u64 (.p 0),.nsl,.bool (.tt ZC)],[],ZA (4,169),ZD,ZC,ZC,ZD,160,ZC,ZD,ZC,0⟩
def T8:TI:=⟨ZB,12,[.int .u64 (.p 0),.nsl,.bool (.tt ZC),.int .u64 (.p 0),.nsl,.bool (.tt ZC),.int .u64 (.p 0),.nsl,.bool (.tt ZC),.int .u64 (.p 0),.nsl,.bool (.tt ZC)],[(0,170)],ZD,ZD,ZC,ZC,ZD,160,ZC,ZD,ZC,0⟩
def SG:TI:=⟨ZC,1,[.nsl],[],ZD,ZD,ZC,ZC,ZA 43,24,ZC,ZD,ZC,0⟩
def SF:TI:=⟨ZC,1,[.nsl],[],ZD,ZD,ZC,ZC,ZA 177,24,ZC,ZD,ZC,0⟩
def asM:TI:=⟨ZB,11,(zN 11 11111111111),[],ZA (11,43),ZD,ZC,ZC,ZD,88,ZC,ZD,ZC,0⟩
def asL:TI:=⟨ZB,64,(zN 64 3333333333333333333333333333333333333333333333333333333333333333),[],ZA (64,5),ZD,ZC,ZC,ZD,64,ZC,ZD,ZC,0⟩
def amT:TI:=⟨ZB,76,(zN 76 3333333333333333333333333333333333333333333333333333333333333333211111111111),[(0,98),(11,3),(12,99)],ZD,ZD,ZC,ZC,ZD,160,ZC,ZD,ZC,0⟩
def amS:TI:=⟨ZB,84,[.int .i64 (.p 0),.nsl,.np,.int .u64 (.p 0),.int .u64 (.p 0),.int .u64 (.p 0),.int .u64 (.p 0),.int .u64 (.p 0),.int .u64 (.p 0),.int .u64 (.p 0),.int .u64 (.p 0),.int .u64 (.p 0),.int .u64 (.p 0),.int .u64 (.p 0),.int .i64 (.p 0),.int .u8 (.p 0),.int .u8 (.p 0),.int .u8 (.p 0),.int .u8 (.p 0),.int .u8 (.p 0),.int .u8 (.p 0),.int .u8 (.p 0),.int .u8 (.p 0),.int .u8 (.p 0),.int .u8 (.p 0),.int .u8 (.p 0),.int .u8 (.p 0),.int .u8 (.p 0),.int .u8 (.p 0),.int .u8 (.p 0),.int .u8 (.p 0),.int .u8 (.p 0),.int .u8 (.p 0),.int .u8 (.p 0),.int .u8 (.p 0),.int .u8 (.p 0),.int .u8 (.p 0),.int .u8 (.p 0),.int .u8 (.p 0),.int .u8 (.p 0),.int .u8 (.p 0),.int .u8 (.p 0),.int .u8 (.p 0),.int .u8 (.p 0),.int .u8 (.p 0),.int .u8 (.p 0),.int .u8 (.p 0),.int .u8 (.p 0),.int .u8 (.p 0),.int .u8 (.p 0),.int .u8 (.p 0),.int .u8 (.p 0),.int .u8 (.p 0),.int .u8 (.p 0),.int .u8 (.p 0),.int .u8 (.p 0),.int .u8 (.p 0),.int .u8 (.p 0),.int .u8 (.p 0),.int .u8 (.p 0),.int .u8 (.p 0),.int .u8 (.p 0),.int .u8 (.p 0),.int .u8 (.p 0),.int .u8 (.p 0),.int .u8 (.p 0),.int .u8 (.p 0),.int .u8 (.p 0),.int .u8 (.p 0),.int .u8 (.p 0),.int .u8 (.p 0),.int .u8 (.p 0),.int .u8 (.p 0),.int .u8 (.p 0),.int .u8 (.p 0),.int .u8 (.p 0),.int .u8 (.p 0),.int .u8 (.p 0),.int .u8 (.p 0),.int .i64 (.p 0),.int .i64 (.p 0),.nsl,.nsl,.int .i8 (.p 0)],[(0,24),(2,97),(3,101),(79,3),(80,3),(81,26),(82,44),(83,39)],ZD,ZD,ZC,ZC,ZD,272,ZC,ZD,ZC,0⟩
def Ry:TI:=⟨ZB,3,[.int .i64 (.p 0),.nsl,.int .u64 (.p 0)],[(0,3),(1,26),(2,43)],ZD,ZD,ZC,ZC,ZD,40,ZC,ZD,ZC,0⟩
def VF:TI:=⟨ZB,5,[.int .i8 (.p 0),.int .u64 (.p 0),.nsl,.nsl,.int .i64 (.p 0)],[(0,39),(1,43),(2,25),(3,44),(4,3)],ZD,ZD,ZC,ZC,ZD,72,ZC,ZD,ZC,0⟩
def Pk:TI:=⟨ZC,1,[.nsl],[],ZD,ZD,ZC,ZC,ZA 3,24,ZC,ZD,ZC,0⟩
def amR:TI:=⟨ZC,1,[.int .u32 (.p 0)],[],ZD,ZA .u32,ZC,ZC,ZD,4,ZC,ZD,ZC,0⟩
def asP:TI:=⟨ZC,1,[.nsl],[],ZD,ZD,ZC,ZC,ZA 4,24,ZC,ZD,ZC,0⟩
def asO:TI:=⟨ZC,1,[.nsl],[],ZD,ZD,ZC,ZC,ZA 67,24,ZC,ZD,ZC,0⟩
def asN:TI:=⟨ZB,2,[.nsl,.nsl],[(0,29),(1,30)],ZD,ZD,ZC,ZC,ZD,48,ZC,ZD,ZC,0⟩
def aaS:TI:=⟨ZB,171,(zN 171 221122110221122110221122110221122110221122110221122110221122110221122110221122110221122110221122110221122110221122110221122110221122110221122110221122110221122110221122110),[(0,64),(99,65)],ZD,ZD,ZB,ZC,ZD,1368,ZC,ZD,ZC,0⟩
def zlF:Tr:=.u (.j (.tt ZC) .nil)
def zlT:Tr:=.u (.j (.tt ZB) .nil)
def Am:=aI @Tr.asks.eq_1 (aI @Tr.asks.eq_2 (aI @Tr.asks.eq_3 (aI @Tr.asks.eq_4 (aI @Tr.asks.eq_5 (aI @Tr.asks.eq_6 (aI @Tr.asks.eq_7 (aI @Tr.asks.eq_8 (aI @Tr.asks.eq_9 (aI @Tr.asks.eq_10 (aI @Tr.asks.eq_11 (aI @okDs.eq_1 (aI @okDs.eq_2 (aI @okDs.eq_3 (aI @okD.eq_1 (aI @okD.eq_2 (aI @okD.eq_3 (aI @okD.eq_4 (aI @eqs.eq_1 (aI @eqs.eq_2 (aI @eqs.eq_3 (aI @eqs.eq_4 (aI @eqs.eq_5 (aI @E.I.eq_1 (aI @E.I.eq_2 (aI @E.I.eq_3 (aI @E.I.eq_4 (aI @E.I.eq_5 (aI @E.I.eq_6 (aI @E.I.eq_7 (aI @E.I.eq_8 (aI @E.I.eq_9 (aI @E.I.eq_10 (aI @E.I.eq_11 (aI @E.I.eq_12 (aI @E.B.eq_1 (aI @E.B.eq_2 (aI @E.B.eq_3 (aI @E.B.eq_4 (aI @E.B.eq_5 (aI @E.B.eq_6 (aI @E.B.eq_7 (aI @E.B.eq_8 (aI @E.B.eq_9 (aI @E.B.eq_10 (aI @E.L.eq_1 (aI @E.L.eq_2 (aI @E.L.eq_3 (aI @E.R.eq_1 (aI @E.R.eq_2 (aI @E.R.eq_3 (aI @E.R.eq_4 (aI @E.R.eq_5 (aI @E.R.eq_6 (aI @E.R.eq_7 (aI @E.R.eq_8 (aI @E.R.eq_9 (aI @E.R.eq_10 (aI @E.D.eq_1 (aI @E.D.eq_2 (aI @E.D.eq_3 (aI @E.D.eq_4 (aI @E.vs.eq_1 (aI @E.vs.eq_2 (aI @E.gs.eq_1 (aI @E.gs.eq_2 (aI @E.ins.eq_1 (aI @E.sv.eq_1 (aI @E.sv.eq_2 (aI @E.tn.eq_1 (aI @E.tn.eq_2 (aI @E.iv.eq_1 (aI @E.iv.eq_2 (aI @E.zs.eq_1 (aI @E.zs.eq_2 (aI @E.zr.eq_1 (aI @E.zr.eq_2 (aI @E.sg.eq_1 (aI @E.sg.eq_2 (aI @E.tg.eq_1 (aI @E.tg.eq_2 (aI @E.rg.eq_1 (aI @E.rgs.eq_1 (aI @E.rgs.eq_2 (aI @E.rgs.eq_3 (aI @E.rgs.eq_4 (aI @E.pv.eq_1 (aI @E.pv.eq_2 (aI @dI.eq_1 (aI @dB.eq_1 (aI @dL.eq_1 (aI @varD.eq_1 (aI @varD.eq_2 (aI @varD.eq_3 (aI @varsD.eq_1 (aI @varsD.eq_2 (aI zlF.eq_1 (aI zlT.eq_1 (aI Lv (aI S1 (aI @iL (aI @rdZ.eq_1 (aI @rdB.eq_1 (@rdL.eq_1)))))))))))))))))))))))))))))))))))))))))))))))))))))))))))))))))))))))))))))))))))))))))))))))))))))))
def tpr:Nat->Nat->List Pl
 |_,0=>[]
 |a,n+1=>.top a::tpr (a+1) n
def Eb:List (Nat×Nat)->List Pl
 |[]=>[]
 |x::l=>tpr x.1 x.2++Eb l
abbrev Ih:=kN 171 221122110221122110221122110221122110221122110221122110221122110221122110221122110221122110221122110221122110221122110221122110221122110221122110221122110221122110221122110
abbrev NP:=kN 172 2211221102211221102211221102211221102211221102211221102211221102211221102211221102211221102211221102211221102211221102211221102211221102211221102211221102211221102211221109
end Go.Proofs.YtgolejfhoefeaabGreatDoor
