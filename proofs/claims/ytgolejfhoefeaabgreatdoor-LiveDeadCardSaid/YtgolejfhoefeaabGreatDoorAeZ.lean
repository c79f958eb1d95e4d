import Derived.Test.YtgolejfhoefeaabGreatDoorAdZ
import Derived.LoopN
import Derived.Lib.LazyBuf
import Derived.Test.YtgolejfhoefeaabGreatDoorAbZ
import Derived.DeepKeys
set_option maxRecDepth 100000
set_option maxHeartbeats 8000000
set_option linter.defProp false
set_option linter.unusedVariables false
set_option linter.unusedSimpArgs false
namespace Go.Proofs.YtgolejfhoefeaabGreatDoor
open Option renaming some->ZA,none->ZD,map_some->ZK
open Bool renaming true->ZB,false->ZC,not_eq_true'->ZL
open Sem renaming run_bind->ZH
open Nat renaming beq->ZI,le_refl->YJ,add_zero->ZP,add_assoc->ZU
open Option.some renaming inj->YL
open List renaming length_cons->YM,append_nil->YO,flatMap_cons->ZO,map_cons->YR,mem_append->ZS,foldl_cons->YT
open Go.Region renaming binds->ZX
open Go.RowKit
variable {j:J}{w w0:World}{s:St}{a:Act}{o:Oper}{vk vks:List VK}{W0:Wb}{n v0 i k b:Nat}{X vs vals:List Value}{cs:List C}{v:Value}{args:List V}{y:Lp}{c:C}{ks:List CK}{sp:Spec}{x:Operand}{fn:Func}{ds:List Dt}{FG:List (Option Nat)}{tup:Bool}{P:Program}
def E.sc(n:Nat):E->Bool
 |.p _|.nil|.tt _|.ln=>ZB
 |.w i|.s i|.g i=>Nat.blt i n
 |.f _ _ a b|.nth a b|.leq a b|.mix a b|.mn a b|.mx a b|.cons a b|.j a b | .N a b|.lt a b|.eq a b|.and a b|.beq a b|.lq a b|.lcat a b|.lrep a b|.ltake a b|.ldrop a b=>a.sc n&&b.sc n
 |.get a i _|.getb a i _=>a.sc n&&i.sc n
 |.lset a i _ x|.lsetb a i _ x|.lput a i x|.ite a i x=>a.sc n&&(i.sc n&&x.sc n)
 | .F _ a|.not a|.len a=>a.sc n
def E.sc_eq{ρ ρ':Env}(h:Ag n ρ ρ'):∀e:E,e.sc n=ZB->e.I ρ=e.I ρ'/\e.B ρ=e.B ρ'/\e.L ρ=e.L ρ'/\e.R ρ=e.R ρ'/\e.D ρ=e.D ρ':=by
 intro e
 induction e<;>intro hs<;>simp only[E.sc,ne]at hs
 case w i=>exact⟨(h i YD).1,rfl,rfl,rfl,rfl⟩
 case s i=>exact⟨rfl,(h i YD).2.1,rfl,rfl,rfl⟩
 case g i=>exact⟨rfl,rfl,rfl,(h i YD).2.2,rfl⟩
 case p=>exact⟨rfl,rfl,rfl,rfl,rfl⟩
 case nil=>exact⟨rfl,rfl,rfl,rfl,rfl⟩
 case ln=>exact⟨rfl,rfl,rfl,rfl,rfl⟩
 case tt=>exact⟨rfl,rfl,rfl,rfl,rfl⟩
 case F ih=>simp[E.I,E.B,E.L,E.R,E.D,ih hs]
 case not ih=>simp[E.I,E.B,E.L,E.R,E.D,ih hs]
 case len ih=>simp[E.I,E.B,E.L,E.R,E.D,ih hs]
 case lset Ep Er ih3=>simp[E.I,E.B,E.L,E.R,E.D,Ep hs.1,Er hs.2.1,ih3 hs.2.2]
 case ite Ep Er ih3=>simp[E.I,E.B,E.L,E.R,E.D,Ep hs.1,Er hs.2.1,ih3 hs.2.2]
 case lput Ep Er ih3=>simp[E.I,E.B,E.L,E.R,E.D,Ep hs.1,Er hs.2.1,ih3 hs.2.2]
 case lsetb Ep Er ih3=>simp[E.I,E.B,E.L,E.R,E.D,Ep hs.1,Er hs.2.1,ih3 hs.2.2]
 all_goals
  rename_i Ep Er;simp[E.I,E.B,E.L,E.R,E.D,Ep hs.1,Er hs.2]
def Cr:List VK->List E->E
 |.int _::ks,e::es=>.cons e (Cr ks es)
 |.bool::ks,e::es=>.j e (Cr ks es)
 |.list _::ks,e::es=>.N e (Cr ks es)
 |_,_=>.nil
structure Giv(v0:Nat)(vks:List VK)(θ:List E)(ρ ρ':Env):Prop where
 ag:Ag v0 ρ ρ'
 i:∀m k t,vks[m]? =ZA (.int k)->θ[m]? =ZA t->ρ'.i (v0+m)=t.I ρ
 b:∀m t,vks[m]? =ZA .bool->θ[m]? =ZA t->ρ'.b (v0+m)=t.B ρ
 l:∀m ks t,vks[m]? =ZA (.list ks)->θ[m]? =ZA t->ρ'.l (v0+m)=t.R ρ
def oq{a b:Bool}(h:Ay a=Ay b):a=b:=by cases a<;>cases b<;>first|rfl|cases h
def RS{ρ ρ':Env}:∀(vks:List VK) (θ:List E) (n:Nat),θ.length=vks.length->varsD ρ' n vks=(Cr vks θ).D ρ->∀m t,θ[m]? =ZA t->(∀k,vks[m]? =ZA (.int k)->ρ'.i (n+m)=t.I ρ)/\(vks[m]? =ZA .bool->ρ'.b (n+m)=t.B ρ)/\(∀ks,vks[m]? =ZA (.list ks)->ρ'.l (n+m)=t.R ρ)
 |[],θ,n,hl,h,m,t,ht=>⟨fun k hk=>by simp at hk,fun hk=>by simp at hk,fun k hk=>by simp at hk⟩
 |vk::vks,[],n,hl,h,m,t,ht=>by cases hl
 |vk::vks,e::θ,n,hl,h,m,t,ht=>by
   have B0:θ.length=vks.length:=Ya;have step:∀d,varD ρ' n vk=d->(Cr (vk::vks) (e::θ)).D ρ=d::(Cr vks θ).D ρ->varsD ρ' (n+1) vks=(Cr vks θ).D ρ:=by intro d _ h2;have h3:varD ρ' n vk::varsD ρ' (n+1) vks=(Cr (vk::vks) (e::θ)).D ρ:=h;rw[h2]at h3;exact(List.cons.inj h3).2
   cases m with
   |zero=>
     simp only[cH,aU,ZP]at ht ⊢;subst ht;have h0:varD ρ' n vk::varsD ρ' (n+1) vks=(Cr (vk::vks) (e::θ)).D ρ:=h;refine⟨fun k hk=> ?_,fun hk=> ?_,fun ks hk=> ?_⟩
     .subst hk;simp only[Cr,E.D,varD,AY,Dt.z.injEq]at h0;exact h0.1
     .subst hk;simp only[Cr,E.D,varD,AY,Dt.z.injEq]at h0;exact oq h0.1
     .subst hk;simp only[Cr,E.D,varD,AY,Dt.l.injEq]at h0;exact h0.1
   |succ m=>
     have h1:varsD ρ' (n+1) vks=(Cr vks θ).D ρ:=by have h0:varD ρ' n vk::varsD ρ' (n+1) vks=(Cr (vk::vks) (e::θ)).D ρ:=h;cases vk<;>simp only[Cr,E.D,AY]at h0<;>exact h0.2
     have:=RS vks θ (n+1) B0 h1 m t (by simpa using ht);simpa[ZU,Nat.add_comm 1 m]using this
def auD{ρ ρ':Env}{θ:List E}(Ef:Ag v0 ρ ρ')(hl:θ.length=vks.length)(h:varsD ρ' v0 vks=(Cr vks θ).D ρ):Giv v0 vks θ ρ ρ':=⟨Ef,fun m k t hk ht=>(RS vks θ v0 hl h m t ht).1 k hk,fun m t hk ht=>(RS vks θ v0 hl h m t ht).2.1 hk,fun m ks t hk ht=>(RS vks θ v0 hl h m t ht).2.2 ks hk⟩
def rJ(v:Nat):List CE->List C×List VK
 |[]=>([],[])
 |some k::ks=>(.int k (.w v)::(rJ (v+1) ks).1,.int k::(rJ (v+1) ks).2)
 |none::ks=>(.bool (.s v)::(rJ (v+1) ks).1,.bool::(rJ (v+1) ks).2)
def RQ(heap:List Ob)(b o:Nat)(c:C):Option (List Ob):=match heap[b]? with
 |some (.box cs ty)=>if o<cs.length then ZA (heap.set b (.box (cs.set o c) ty))else ZD
 |_=>ZD
def akY(heap:List Ob)(b o:Nat)(l:List C):Option (List Ob):=match heap[b]? with
 |some (.box cs ty)=>if o+l.length<=cs.length then ZA (heap.set b (.box (cs.take o++(l++cs.drop (o+l.length))) ty))else ZD
 |_=>ZD
def TM.only(m:TM)(ks:List Nat):TM:=⟨ks.foldl (fun T k=>T.set (Nat.log2 m.n+1) k (m.cur.get k)) (.u .top),m.n,m.old⟩
def MA(v0:Nat)(p:Pl)(x:St×List VK):Option (St×List VK):=
 let v:=v0+x.2.length
 match p with
 |.top t=>if Nat.blt t x.1.n then ZA ({x.1 with tmps:=x.1.tmps.set t .top},x.2)else ZD
 |.tmpI t k=>if Nat.blt t x.1.n then ZA ({x.1 with tmps:=x.1.tmps.set t (.one (.int k (.w v)))},x.2++[.int k])else ZD
 |.tmpB t=>if Nat.blt t x.1.n then ZA ({x.1 with tmps:=x.1.tmps.set t (.one (.bool (.s v)))},x.2++[.bool])else ZD
 |.tmpA t ks=>if Nat.blt t x.1.n then ZA ({x.1 with tmps:=x.1.tmps.set t (.agg (rJ v ks).1)},x.2++(rJ v ks).2)else ZD
 |.tmpS t ks ty=>if Nat.blt t x.1.n then ZA (⟨x.1.tmps.set t (.one (.sl x.1.heap.length)),x.1.heap++[.row ⟨ks,ty,.g v,ZB,CO ks⟩]⟩,x.2++[.list ks])else ZD
 |.tmpX t ks ty=>if Nat.blt t x.1.n then ZA (⟨x.1.tmps.set t (.one (.ptr x.1.heap.length 0)),x.1.heap++[.box (rJ v ks).1 ty]⟩,x.2++(rJ v ks).2)else ZD
 |.cI b o k=>(RQ x.1.heap b o (.int k (.w v))).map fun h=>(⟨x.1.tmps,h⟩,x.2++[.int k])
 |.celB b o=>(RQ x.1.heap b o (.bool (.s v))).map fun h=>(⟨x.1.tmps,h⟩,x.2++[.bool])
 |.only ks=>ZA (⟨x.1.tmps.only ks,x.1.heap⟩,x.2)
 |.cels b o ks=>(akY x.1.heap b o (rJ v ks).1).map fun h=>(⟨x.1.tmps,h⟩,x.2++(rJ v ks).2)
 |.cT b o ks ty=>(RQ x.1.heap b o (.sl x.1.heap.length)).map fun h=>(⟨x.1.tmps,h++[.row ⟨ks,ty,.g v,ZB,CO ks⟩]⟩,x.2++[.list ks])
 |.celV b o ks ty=>(RQ x.1.heap b o (.sl x.1.heap.length)).map fun h=>(⟨x.1.tmps,h++[.row ⟨ks,ty,.g v,ZC,CO ks⟩]⟩,x.2++[.list ks])
 |.row id=>match x.1.heap[id]? with
   |some (.row r)=>ZA (⟨x.1.tmps,x.1.heap.set id (.row {r with l:=.g v})⟩,x.2++[.list r.ks])
   |_=>ZD
 |.gone id=>if id<x.1.heap.length then ZA (⟨x.1.tmps,x.1.heap.set id .gone⟩,x.2)else ZD
 |.ask=>ZD
def JD(v0:Nat):List Pl->St×List VK->Option (St×List VK)
 |[],x=>ZA x
 |p::l,x=>(MA v0 p x).bind (JD v0 l)
def yh:List CE->List C->Option (List E)
 |[],[]=>ZA []
 |some k::ks,.int k' e::cs=>if bB k k' then(yh ks cs).map (e::·)else ZD
 |none::ks,.bool e::cs=>(yh ks cs).map (e::·)
 |_,_=>ZD
def Ur(heap:List Ob):C->Option (E×Option Nat)
 |.sl id=>(HJ heap id).map fun r=>(r.l,ZA id)
 |.nsl=>ZA (.ln,ZD)
 |_=>ZD
def Wn(p:Pl)(s:St):Option (List E×List (Option Nat)):=
 match p with
 |.top _=>ZA ([],[])
 |.tmpI t _=>match s.tmps.get? t with|some (.one (.int _ e))=>ZA ([e],[])|_=>ZD
 |.tmpB t=>match s.tmps.get? t with|some (.one (.bool e))=>ZA ([e],[])|_=>ZD
 |.tmpA t ks=>match s.tmps.get? t with|some (.agg cs)=>(yh ks cs).map fun l=>(l,[])|_=>ZD
 |.tmpS t _ _=>match s.tmps.get? t with|some (.one c)=>(Ur s.heap c).map fun x=>([x.1],[x.2])|_=>ZD
 |.tmpX t ks _=>match s.tmps.get? t with|some (.one (.ptr b 0))=>(match s.heap[b]? with|some (.box cs _)=>(yh ks cs).map fun l=>(l,[ZA b])|_=>ZD)|_=>ZD
 |.cI b o _=>match Jx s.heap b o with|some (.int _ e)=>ZA ([e],[])|_=>ZD
 |.celB b o=>match Jx s.heap b o with|some (.bool e)=>ZA ([e],[])|_=>ZD
 |.only _=>ZA ([],[])
 |.cels b o ks=>match s.heap[b]? with|some (.box cs _)=>((Q6 cs o ks.length).bind (yh ks)).map fun l=>(l,[])|_=>ZD
 |.cT b o _ _=>match Jx s.heap b o with|some c=>(Ur s.heap c).map fun x=>([x.1],[x.2])|none=>ZD
 |.celV b o _ _=>match Jx s.heap b o with|some c=>(Ur s.heap c).map fun x=>([x.1],[x.2])|none=>ZD
 |.row id=>(HJ s.heap id).map fun r=>([r.l],[])
 |.gone _=>ZA ([],[])
 |.ask=>ZD
def MD:List Pl->St->Option (List E×List (Option Nat))
 |[],_=>ZA ([],[])
 |p::l,s=>match Wn p s,MD l s with
   |some x,ZA y=>ZA (x.1++y.1,x.2++y.2)
   |_,_=>ZD
structure Mt where
 v0:Nat
 vks:List VK
 θ:List E
 h0:Nat
 ex:List (Option Nat)
 hd:List Ob
def Mt.sig(m:Mt)(a:Nat):Option (Option Nat):=match m.hd[a]? with
 |some (.box _ _)|some (.row _)|some (.loop _)=>if a<m.h0 then ZA (ZA a)else m.ex[a-m.h0]?
 |_=>ZD
def Mt.okI(m:Mt)(e e':E):Bool:=
 match e with
 |.w n=>if m.v0<=n then(match m.vks[n-m.v0]?,m.θ[n-m.v0]? with|some (.int _),ZA t=>t.same e'|_,_=>ZC)else(match e' with|.w n'=>ZI n n'|_=>ZC)
 |e=>e.same e'&&e.sc m.v0
def Mt.okB(m:Mt)(e e':E):Bool:=
 match e with
 |.s n=>if m.v0<=n then(match m.vks[n-m.v0]?,m.θ[n-m.v0]? with|some .bool,ZA t=>t.same e'|_,_=>ZC)else(match e' with|.s n'=>ZI n n'|_=>ZC)
 |e=>e.same e'&&e.sc m.v0
def Mt.okR(m:Mt)(e e':E):Bool:=
 match e with
 |.g n=>if m.v0<=n then(match m.vks[n-m.v0]?,m.θ[n-m.v0]? with|some (.list _),ZA t=>t.same e'|_,_=>ZC)else(match e' with|.g n'=>ZI n n'|_=>ZC)
 |e=>e.same e'&&e.sc m.v0
def Mt.okId(m:Mt)(b b':Nat):Bool:=match m.sig b with|some (ZA x)=>ZI x b'|_=>ZC
def Mt.okP(m:Mt):Option (Bool×Nat×Nat)->Option (Bool×Nat×Nat)->Bool
 |none,ZD=>ZB
 |some (ZB,b,o),ZA (ZB,b',o')=>ZI o o'&&m.okId b b'
 |some (ZC,b,o),ZA (ZC,b',o')=>ZI o o'&&ZI b b'
 |_,_=>ZC
def Mt.okPs(m:Mt):List (Option (Bool×Nat×Nat))->List (Option (Bool×Nat×Nat))->Bool
 |[],[]=>ZB
 |x::l,y::r=>m.okP x y&&m.okPs l r
 |_,_=>ZC
def Mt.okC(m:Mt)(c d:C):Bool:=
 match c with
 |.int k e=>(match d with|.int k' e'=>bB k k'&&m.okI e e'|_=>ZC)
 |.bool e=>(match d with|.bool e'=>m.okB e e'|_=>ZC)
 |.ptr b o=>(match d with|.ptr b' o'=>ZI o o'&&m.okId b b'|_=>ZC)
 |.fp b o=>(match d with|.fp b' o'=>ZI b b'&&ZI o o'|_=>ZC)
 |.fn f=>(match d with|.fn f'=>ZI f f'|_=>ZC)
 |.np=>(match d with|.np=>ZB|_=>ZC)
 |.undef=>(match d with|.undef=>ZB|_=>ZC)
 |.sl id=>(match d with|.sl IH=>m.okId id IH|.nsl=>(match m.sig id with|some ZD=>ZB|_=>ZC)|_=>ZC)
 |.ep id z e o=>(match d with|.ep IH z' e' o'=>m.okId id IH&&(ZI z z'&&(m.okI e e'&&ZI o o'))|_=>ZC)
 |.nsl=>(match d with|.nsl=>ZB|_=>ZC)
 |.nf=>(match d with|.nf=>ZB|_=>ZC)
 |.nmp=>(match d with|.nmp=>ZB|_=>ZC)
 |.pe b o n sz e off=>(match d with|.pe b' o' n' O9 e' off'=>m.okId b b'&&(ZI o o'&&(ZI n n'&&(ZI sz O9&&(m.okI e e'&&ZI off off'))))|_=>ZC)
 |.wn id sz lo hi mx=>(match d with|.wn IH O9 Tt A6 Jh=>m.okId id IH&&(ZI sz O9&&(m.okI lo Tt&&(m.okI hi A6&&(match mx,Jh with|none,ZD=>ZB|some x,ZA y=>m.okI x y|_,_=>ZC))))|_=>ZC)
 |.aw b o n sz lo hi mx=>(match d with|.aw b' o' n' O9 Tt A6 Jh=>m.okId b b'&&(ZI o o'&&(ZI n n'&&(ZI sz O9&&(m.okI lo Tt&&(m.okI hi A6&&m.okI mx Jh)))))|_=>ZC)
 |.str e=>(match d with|.str e'=>m.okR e e'|_=>ZC)
 |.mp id=>(match d with|.mp IH=>m.okId id IH|_=>ZC)
 |.itp id mid=>(match d with|.itp IH Ik=>m.okId id IH&&m.okId mid Ik|_=>ZC)
 |.yld id=>(match d with|.yld IH=>m.okId id IH|_=>ZC)
 |.clo g fs ps=>(match d with|.clo g' W8 ps'=>ZI g g'&&(m.okPs fs W8&&m.okPs ps ps')|_=>ZC)
def Mt.okCs(m:Mt):List C->List C->Bool
 |[],[]=>ZB
 |c::cs,d::ds=>m.okC c d&&m.okCs cs ds
 |_,_=>ZC
def Mt.okW(m:Mt):List C->List C->Nat->List VK->List E->Bool
 |[],[],_,_,_=>ZB
 |c::cs,d::ds,n,vs,ts=>match c with
   |.int k (.w i)=>bif ZI i n then(match vs with
    |.int _::Pb=>(match ts with
      |t::ts'=>(match d with
        |.int k' e'=>bif bB k k'&&t.same e' then m.okW cs ds (n+1) Pb ts' else ZC
        |_=>ZC)
      |[]=>ZC)
    | _=>ZC)
     else(bif m.okC (.int k (.w i)) d then(bif Nat.ble m.v0 i then m.okW cs ds (i+1) (m.vks.drop (i+1-m.v0)) (m.θ.drop (i+1-m.v0))else m.okW cs ds n vs ts)else ZC)
   |c=>bif m.okC c d then m.okW cs ds n vs ts else ZC
 |_,_,_,_,_=>ZC
def th{α:Type}{l:List α}{a:α}{r:List α}(h:l.drop i=a::r):l[i]? =ZA a/\l.drop (i+1)=r:=by
 constructor
 .have:=List.getElem?_drop (xs:=l) (i:=i) (j:=0);rw[h]at this;simpa using this.symm
 .rw[<-List.drop_drop,h];rfl
def xp{m:Mt}:∀{cs ds:List C} {n:Nat} {vs:List VK} {ts:List E},m.v0<=n->m.vks.drop (n-m.v0)=vs->m.θ.drop (n-m.v0)=ts->m.okW cs ds n vs ts=ZB->m.okCs cs ds=ZB
 |[],[],_,_,_,_,_,_,_=>rfl
 |[],_::_,_,_,_,_,_,_,h=>by cases h
 |_::_,[],_,_,_,_,_,_,h=>by cases h
 |c::cs,d::ds,n,vs,ts,hn,h1,h2,h=>by
   have step:∀{c:C},(bif m.okC c d then m.okW cs ds n vs ts else ZC)=ZB->m.okCs (c::cs) (d::ds)=ZB:=fun {c} h=>by
    cases hc:m.okC c d with
    |false=>rw[hc]at h;cases h
    |true=>rw[hc]at h;simp only[Mt.okCs,hc,Bool.true_and];exact xp hn h1 h2 h
   unfold Mt.okW at h;split at h
   .rename_i k i;cases hb:ZI i n with
    |false=>
      rw[hb]at h;simp only[cond_false]at h;cases hc:m.okC (.int k (.w i)) d with
      |false=>rw[hc]at h;cases h
      |true=>
        rw[hc]at h;simp only[Mt.okCs,hc,Bool.true_and];cases hl:Nat.ble m.v0 i with
        |false=>rw[hl]at h;exact xp hn h1 h2 h
        |true=>rw[hl]at h;exact xp (Nat.le_succ_of_le (Nat.le_of_ble_eq_true hl)) rfl rfl h
    |true=>
      rw[hb]at h;simp only[cond_true]at h;have:=Ah hb;subst this;split at h
      .rename_i Pb;split at h
       .rename_i t ts';split at h
        .rename_i k' e';cases hc:bB k k'&&t.same e' with
         |false=>rw[hc]at h;cases h
         |true=>
           rw[hc]at h;rw[ne]at hc;obtain⟨a1,a2⟩:=th h1;obtain⟨b1,b2⟩:=th h2;have e1:i+1-m.v0=i-m.v0+1:=Fn;have hk:m.okC (.int k (.w i)) (.int k' e')=ZB:=by simp only[Mt.okC,Mt.okI,ae hn,a1,b1,hc.1,hc.2,Bool.and_self]
           simp only[Mt.okCs,hk,Bool.true_and];exact xp (Nat.le_succ_of_le hn) (by rw[e1];exact a2) (by rw[e1];exact b2) h
        .exact ST
       .exact ST
      .exact ST
   .exact step h
def Mt.okL(m:Mt)(cs ds:List C):Bool:=m.okW cs ds m.v0 m.vks m.θ
def anx{m:Mt}{ds:List C}(h:m.okL cs ds=ZB):m.okCs cs ds=ZB:=xp (YJ _) (by simp) (by simp) h
def Mt.okT(m:Mt):List (Bool×List C)->List (Bool×List C)->Bool
 |[],[]=>ZB
 |(t,cs)::l,(t',ds)::r=>(t==t')&&(m.okCs cs ds&&m.okT l r)
 |_,_=>ZC
def Mt.okV(m:Mt):V->V->Bool
 |.top,_=>ZB
 |.one c,.one d=>m.okC c d
 |.agg cs,.agg ds=>m.okL cs ds
 |.tup l,.tup r=>m.okT l r
 |_,_=>ZC
def Mt.okLf(m:Mt)(v:V):TT->Bool
 |.u u=>m.okV v u
 |.node l r=>match v with
   |.top=>ZB
   |v=>m.okLf v l&&m.okLf v r
def Mt.okTT(m:Mt):TT->TT->Bool
 |.u v,t=>m.okLf v t
 |.node l r,t=>m.okTT l t.fst&&m.okTT r t.snd
def Mt.okOld(m:Mt):List (TT×Nat)->List (TT×Nat)->Bool
 |[],[]=>ZB
 |(t,n)::l,(t',n')::l'=>ZI n n'&&(m.okTT t t'&&m.okOld l l')
 |_,_=>ZC
def Mt.okVs(m:Mt)(l r:TM):Bool:=ZI l.n r.n&&(m.okTT l.cur r.cur&&m.okOld l.old r.old)
def Mt.okK(m:Mt):RK->RK->Bool
 |.sl,.sl=>ZB
 |.map a b c,.map a' b' c'=>ZI a a'&&((b==b')&&(c==c'))
 |.it mid n,.it Ik n'=>m.okId mid Ik&&m.okI n n'
 |.ev,.ev=>ZB
 |.tab,.tab=>ZB
 |_,_=>ZC
def agd:Option Sig->Option Sig->Bool
 |none,ZD=>ZB
 |some .normal,ZA .normal=>ZB
 |some .ret,ZA .ret=>ZB
 |some (.exit a),ZA (.exit b)=>ZI a b
 |_,_=>ZC
def LS.same:LS->LS->Bool
 |.ready,.ready=>ZB
 |.busy,.busy=>ZB
 |.done,.done=>ZB
 |_,_=>ZC
def Uh(x y:Lp):Bool:=LS.same x.st y.st&&agd x.pend y.pend
def ah0{x:Lp}(h:Uh x y=ZB):x=y:=by
 obtain⟨a,b⟩:=x;obtain⟨c,d⟩:=y;simp only[Uh,ne]at h;have h1:a=c:=by have:=h.1;cases a<;>cases c<;>first|rfl|cases this
 have h2:b=d:=by
  have:=h.2;rcases b with _|(_|_|_)<;>rcases d with _|(_|_|_)<;>first|rfl|(simp[agd]at this;done)|skip
  rw[Ah this]
 rw[h1,h2]
def Mt.okOb(m:Mt)(heap:List Ob)(a:Nat):Ob->Bool
 |.gone=>ZB
 |.box cs ty=>match m.sig a with
   |some (ZA b)=>(match heap[b]? with|some (.box ds N6)=>ZI ty N6&&m.okL cs ds|_=>ZC)
   |_=>ZC
 |.row r=>match m.sig a with
   |some (ZA b)=>(match heap[b]? with|some (.row q)=>bZ r.ks q.ks&&(ZI r.ty q.ty&&((r.own==q.own)&&(m.okR r.l q.l&&m.okK r.kd q.kd)))|_=>ZC)
   |some ZD=>(match r.ks with |[]=>ZC|_::_=>m.okR r.l .ln&&r.kd.fits r.ks)
   |none=>ZC
 |.loop y=>match m.sig a with
   |some (ZA b)=>(match heap[b]? with|some (.loop y')=>Uh y y'|_=>ZC)
   |_=>ZC
def Mt.okHeap(m:Mt)(heap:List Ob):Nat->List Ob->Bool
 |_,[]=>ZB
 |a,ob::l=>m.okOb heap a ob&&m.okHeap heap (a+1) l
def Ob.isGone:Ob->Bool
 |.gone=>ZB
 |_=>ZC
def HS(hd:List Ob)(h0:Nat):List (Option Nat)->Bool
 |[]=>ZB
 |none::l=>HS hd h0 l
 |some b::l=>(if b<h0 then(match hd[b]? with|some ob=>ob.isGone|none=>ZC)else ZB)&&((l.all fun x=>match x with|some b'=>!ZI b b'|none=>ZB)&&HS hd h0 l)
def R8(heap:List Ob)(b:Nat):Bool:=match heap[b]? with
 |some (.row r)=>!r.own
 |_=>ZC
def Rv(heap:List Ob):Option Nat->Option Nat
 |some b=>if R8 heap b then ZD else ZA b
 |none=>ZD
def mz(vk:List VK):List VK->List E->Bool
 |[],[]=>ZB
 |.int k::ks,e::es=>e.rng vk k&&mz vk ks es
 |.bool::ks,_::es=>mz vk ks es
 |.list ks0::ks,e::es=>e.lok vk ks0&&mz vk ks es
 |_,_=>ZC
def zy(vk:List VK):List VK->List E->Rm->Bool
 |[],[],_=>ZB
 |.int k::ks,e::es,m=>match e.rngW vk k m with
   |some m'=>zy vk ks es m'
   |none=>ZC
 |.bool::ks,_::es,m=>zy vk ks es m
 |.list ks0::ks,e::es,m=>e.lok vk ks0&&zy vk ks es m
 |_,_,_=>ZC
def N0(vk:List VK)(vks:List VK)(θ:List E):Bool:=zy vk vks θ (Rm.ini vk)
def mt{vk:List VK}:∀{vks:List VK} {θ:List E} {m:Rm},m.ok vk->zy vk vks θ m=ZB->mz vk vks θ=ZB
 |[],[],_,_,_=>rfl
 |.int k::ks,e::es,m,hm,h=>by
   simp only[zy]at h;split at h
   next m' hw=>obtain⟨h1,h2⟩:=zA hm hw;simp only[mz,h1,mt h2 h,Bool.and_self]
   .exact ST
 |.bool::ks,_::es,m,hm,h=>mt (vks:=ks) (θ:=es) hm h
 |.list ks0::ks,e::es,m,hm,h=>by simp only[zy,ne]at h;simp only[mz,h.1,mt hm h.2,Bool.and_self]
def zO(v0:Nat)(hd:List Ob):Nat->List VK->Bool
 |_,[]=>ZB
 |n,.list ks::l=>(hd.any fun ob=>match ob with|.row r=>(match r.l with|.g m=>ZI m (v0+n)|_=>ZC)&&bZ r.ks ks|_=>ZC)&&zO v0 hd (n+1) l
 |n,_::l=>zO v0 hd (n+1) l
def Mt.ok(m:Mt)(cx:Cx)(vk:List VK)(tmps:TM)(s:St):Bool:=
 (m.okVs tmps s.tmps&&m.okHeap s.heap 0 m.hd)&&(HS m.hd m.h0 (m.ex.map (Rv s.heap))&&((cx.fb.all fun cs=>m.okCs cs cs)&&(N0 vk m.vks m.θ&&zO m.v0 m.hd 0 m.vks)))
section
variable {m:Mt}{ρ ρ':Env}{j:J}
def kW(hg:Giv m.v0 m.vks m.θ ρ ρ'){e e':E}(h:m.okI e e'=ZB):e.I ρ'=e'.I ρ:=by
 unfold Mt.okI at h;split at h
 .rename_i n;split at h
  .rename_i hn;split at h
   next k t hk ht=>have h1:=hg.i _ _ t hk ht;rw[show m.v0+(n-m.v0)=n by omega]at h1;rw[<-E.same_eq h];exact h1
   .exact ST
  .rename_i hn;split at h
   next n'=>rw[<-Ah h];exact(hg.ag n Fn).1.symm
   .exact ST
 .rw[ne]at h;rw[<-E.same_eq h.1];exact(E.sc_eq hg.ag _ h.2).1.symm
def atq(hg:Giv m.v0 m.vks m.θ ρ ρ'){e e':E}(h:m.okB e e'=ZB):e.B ρ'=e'.B ρ:=by
 unfold Mt.okB at h;split at h
 .rename_i n;split at h
  .rename_i hn;split at h
   next t hk ht=>have h1:=hg.b _ t hk ht;rw[show m.v0+(n-m.v0)=n by omega]at h1;rw[<-E.same_eq h];exact h1
   .exact ST
  .rename_i hn;split at h
   next n'=>rw[<-Ah h];exact(hg.ag n Fn).2.1.symm
   .exact ST
 .rw[ne]at h;rw[<-E.same_eq h.1];exact(E.sc_eq hg.ag _ h.2).2.1.symm
def Ul(hg:Giv m.v0 m.vks m.θ ρ ρ'){e e':E}(h:m.okR e e'=ZB):e.R ρ'=e'.R ρ:=by
 unfold Mt.okR at h;split at h
 .rename_i n;split at h
  .rename_i hn;split at h
   next ks t hk ht=>have h1:=hg.l _ _ t hk ht;rw[show m.v0+(n-m.v0)=n by omega]at h1;rw[<-E.same_eq h];exact h1
   .exact ST
  .rename_i hn;split at h
   next n'=>rw[<-Ah h];exact(hg.ag n Fn).2.2.symm
   .exact ST
 .rw[ne]at h;rw[<-E.same_eq h.1];exact(E.sc_eq hg.ag _ h.2).2.2.2.1.symm
def nilSV:SV:=⟨ZD,0,0,[]⟩
def lE{o:Bool}:¬nilSV.blk o=ZA k:=fun h=>by have:=ay h;cases this
def Mt.J(m:Mt)(j:J):J:=⟨fun b=>match m.sig b with|some (ZA x)=>j.b x|_=>ZD,fun id=>match m.sig id with|some (ZA x)=>j.s x|some ZD=>ZA nilSV|none=>ZD,j.f,⟨fun b=>match m.sig b with|some (ZA x)=>j.g.y x|_=>ZD,j.g.z⟩⟩
def kV{b':Nat}(h:m.okId b b'=ZB):(m.J j).b b=j.b b'/\(m.J j).s b=j.s b':=by
 unfold Mt.okId at h;split at h
 next x hx=>rw[<-Ah h];simp only[Mt.J,hx,and_self]
 .exact ST
def atp{b':Nat}(h:m.okId b b'=ZB):(m.J j).g.y b=j.g.y b':=by
 unfold Mt.okId at h;split at h
 next x hx=>rw[<-Ah h];simp only[Mt.J,hx]
 .exact ST
def atn{x y:Option (Bool×Nat×Nat)}(h:m.okP x y=ZB)(hd:Eu j y=ZA v):Eu (m.J j) x=ZA v:=by
 unfold Mt.okP at h;split at h
 .exact hd
 .simp only[ne]at h;have:=Ah h.1;subst this;simp only[Eu]at hd ⊢;rw[(kV h.2).1];exact hd
 .simp only[ne]at h;rw[Ah h.1,Ah h.2];exact hd
 .exact ST
def zG:∀{l r:List (Option (Bool×Nat×Nat))},m.okPs l r=ZB->∀{vs:List Value},fg j r=ZA vs->fg (m.J j) l=ZA vs
 |[],[],_,vs,hd=>hd
 |x::l,y::r,h,vs,hd=>by
   simp only[Mt.okPs,ne]at h;simp only[fg]at hd ⊢;cases hx:Eu j y with
   |none=>rw[hx]at hd;cases hd
   |some v=>
     cases hl:fg j r with
     |none=>rw[hx,hl]at hd;cases hd
     |some us=>rw[hx,hl]at hd;rw[atn h.1 hx,zG h.2 hl];exact hd
def QS(ρ ρ':Env):RK->RK->Prop
 |.sl,.sl=>True
 |.map a b c,.map a' b' c'=>a=a'/\b=b'/\c=c'
 |.it _ n,.it _ n'=>n.I ρ'=n'.I ρ
 |.ev,.ev=>True
 |.tab,.tab=>True
 |_,_=>False
def ato(hg:Giv m.v0 m.vks m.θ ρ ρ'){a b:RK}(h:m.okK a b=ZB):QS ρ ρ' a b:=by
 cases a<;>cases b<;>simp only[Mt.okK]at h<;>first|exact Bool.noConfusion h|skip
 .trivial
 .simp only[ne,cb]at h;exact⟨Ah h.1,h.2.1,h.2.2⟩
 .simp only[ne]at h;exact kW hg h.2
 .trivial
 .trivial
def RowOk.swap{base:Nat}{v:SV}{r q:RowOb}(e1:r.ks=q.ks)(e2:r.ty=q.ty)(e3:r.own=q.own)(e4:r.l.R ρ'=q.l.R ρ)(e5:QS ρ ρ' r.kd q.kd)(h:RowOk ρ base w v q):RowOk ρ' base w v r:=by
 rcases h.cases with⟨hk,h6⟩|⟨hk,h6⟩|⟨hk,h6⟩
 .have BZ:r.kd=.sl:=by
   rw[hk]at e5;cases hr:r.kd<;>rw[hr]at e5<;>first|rfl|exact e5.elim
  refine SlOk.row ⟨?_,?_,?_,by rw[e3];exact h6.lt,fun ho=> ?_,?_⟩ BZ
  .rw[e4];exact h6.n
  .rw[e1,e4];exact h6.rows
  .rw[e1];exact h6.pos
  .rw[e1,e2,e4];exact h6.own (by rw[<-e3];exact ho)
  .rw[e1,e4];exact h6.rd
 .obtain⟨g,ob,h1,h2,h3,h4⟩:=h6.at';refine HdOk.row ⟨by rw[e3];exact h6.own,by rw[e1,e4];exact h6.rows,h6.c,g,ob,h1,h2,h3,?_⟩ ?_
  .unfold FZ at h4 ⊢;cases hr:r.kd<;>cases hq:q.kd<;>rw[hr,hq]at e5<;>first|exact e5.elim|skip
   .rw[hq]at hk;cases hk
   .rw[hq]at h4;obtain⟨rfl,rfl,rfl⟩:=e5;rw[e1,e4];exact h4
   .rw[hq]at h4;have e5':_=_:=e5;dsimp only at h4 ⊢;rw[e1,e4,e5'];exact h4
   .rw[hq]at hk;cases hk
   .rw[hq]at h4;exact h4
  .cases hr:r.kd<;>cases hq:q.kd<;>rw[hr,hq]at e5<;>first|exact e5.elim|rfl|(rw[hq]at hk;cases hk)
 .have BZ:r.kd=.ev:=by
   rw[hk]at e5;cases hr:r.kd<;>rw[hr]at e5<;>first|rfl|exact e5.elim
  obtain⟨ins,g1,g2,g3,g4⟩:=h6.at';exact EvOk.row ⟨by rw[e1];exact h6.ks,by rw[e4];exact h6.n,by rw[e1,e4];exact h6.rows,by rw[e3];exact h6.lt,by rw[e3];exact h6.zb,ins,by rw[e4];exact g1,by rw[e2,e3,e4];exact g2,by rw[e4];exact g3,by rw[e4];exact g4⟩ BZ
def Um(hg:Giv m.v0 m.vks m.θ ρ ρ'){d:C}(h:m.okC c d=ZB)(hd:d.den ρ j=ZA v):c.den ρ' (m.J j)=ZA v:=by
 cases c with
 |int k e=>
   simp only[Mt.okC]at h;split at h
   .simp only[ne]at h;simp only[C.den]at hd ⊢;rw[av h.1,kW hg h.2];exact hd
   .exact ST
 |bool e=>
   simp only[Mt.okC]at h;split at h
   .simp only[C.den]at hd ⊢;rw[atq hg h];exact hd
   .exact ST
 |ptr b o=>
   simp only[Mt.okC]at h;split at h
   .simp only[ne]at h;simp only[C.den]at hd ⊢;rw[Ah h.1,(kV h.2).1];exact hd
   .exact ST
 |fp b o=>
   simp only[Mt.okC]at h;split at h
   .simp only[ne]at h;rw[Ah h.1,Ah h.2];exact hd
   .exact ST
 |fn f=>
   simp only[Mt.okC]at h;split at h
   .rw[Ah h];exact hd
   .exact ST
 |np=>simp only[Mt.okC]at h;split at h<;>first|exact hd|cases h
 |undef=>simp only[Mt.okC]at h;split at h<;>first|exact hd|cases h
 |nsl=>simp only[Mt.okC]at h;split at h<;>first|exact hd|cases h
 |nf=>simp only[Mt.okC]at h;split at h<;>first|exact hd|cases h
 |nmp=>simp only[Mt.okC]at h;split at h<;>first|exact hd|cases h
 |clo g fs ps=>
   simp only[Mt.okC]at h;split at h
   next g' W8 ps'=>simp only[ne]at h;obtain⟨x,y,hx,hy,rfl⟩:=gD (show Fh g' (fg j W8) (fg j ps')=ZA v from hd);simp only[C.den,zG h.2.1 hx,zG h.2.2 hy,Fh,Ah h.1]
   .exact ST
 |sl id=>
   simp only[Mt.okC]at h;split at h
   .simp only[C.den]at hd ⊢;rw[(kV h).2];exact hd
   .split at h
    next hs=>cases hd;simp only[C.den,Mt.J,hs];rfl
    .exact ST
   .exact ST
 |pe b o n sz e off=>
   simp only[Mt.okC]at h;split at h
   .simp only[ne]at h;simp only[C.den]at hd ⊢;rw[(kV h.1).1,Ah h.2.1,Ah h.2.2.2.1,kW hg h.2.2.2.2.1,Ah h.2.2.2.2.2];exact hd
   .exact ST
 |yld id=>
   simp only[Mt.okC]at h;split at h
   .simp only[C.den]at hd ⊢;rw[atp h];exact hd
   .exact ST
 |mp id=>
   simp only[Mt.okC]at h;split at h
   .simp only[C.den]at hd ⊢;rw[(kV h).2];exact hd
   .exact ST
 |wn id sz lo hi mx=>
   simp only[Mt.okC]at h;split at h
   .rename_i IH O9 Tt A6 Jh;simp only[ne]at h;obtain⟨h1,h2,h3,h4,h5⟩:=h;have hm:∀c,Ft ρ' mx c=Ft ρ Jh c:=fun c=>by
     cases mx<;>cases Jh<;>first|rfl|exact Bool.noConfusion h5|(simp only[Ft,kW hg h5])
    simp only[C.den]at hd ⊢;simp only[(kV h1).2,Ah h2,kW hg h3,kW hg h4,hm];exact hd
   .exact ST
 |aw b o n sz lo hi mx=>
   simp only[Mt.okC]at h;split at h
   .simp only[ne]at h;obtain⟨h1,h2,h3,h4,h5,h6,h7⟩:=h;simp only[C.den]at hd ⊢;rw[(kV h1).1,Ah h2,Ah h3,Ah h4,kW hg h5,kW hg h6,kW hg h7];exact hd
   .exact ST
 |str e=>
   simp only[Mt.okC]at h;split at h
   .simp only[C.den]at hd ⊢;rw[Ul hg h];exact hd
   .exact ST
 |itp id mid=>
   simp only[Mt.okC]at h;split at h
   .simp only[ne]at h;simp only[C.den]at hd ⊢;rw[(kV h.1).2,(kV h.2).2];exact hd
   .exact ST
 |ep id z e o=>
   simp only[Mt.okC]at h;split at h
   .simp only[ne]at h;simp only[C.den]at hd ⊢;rw[(kV h.1).2,Ah h.2.1,kW hg h.2.2.1,Ah h.2.2.2];exact hd
   .exact ST
def qI(hg:Giv m.v0 m.vks m.θ ρ ρ'):∀{cs ds:List C},m.okCs cs ds=ZB->∀{vs:List Value},Ad ρ j ds=ZA vs->Ad ρ' (m.J j) cs=ZA vs
 |[],[],_,vs,h=>h
 |c::cs,d::ds,h,vs,hd=>by
   simp only[Mt.okCs,ne]at h;simp only[Ad]at hd ⊢;cases hc:d.den ρ j with
   |none=>rw[hc]at hd;cases hd
   |some v=>
     cases hl:Ad ρ j ds with
     |none=>rw[hc,hl]at hd;cases hd
     |some l=>rw[hc,hl]at hd;rw[Um hg h.1 hc,qI hg h.2 hl];exact hd
def anw(hg:Giv m.v0 m.vks m.θ ρ ρ'):∀{cs ds:List (Bool×List C)},m.okT cs ds=ZB->∀{vs:List Value},ce ρ j ds=ZA vs->ce ρ' (m.J j) cs=ZA vs
 |[],[],_,vs,h=>h
 |(t,cs)::l,(t',ds)::r,h,vs,hd=>by
   simp only[Mt.okT,ne,cb]at h;obtain⟨rfl,h1,h2⟩:=h;simp only[ce]at hd ⊢;cases hc:Bt ρ j (t,ds)with
   |none=>rw[hc]at hd;cases hd
   |some v=>
     cases hl:ce ρ j r with
     |none=>rw[hc,hl]at hd;cases hd
     |some us=>
       rw[hc,hl]at hd;have h3:Bt ρ' (m.J j) (t,cs)=ZA v:=by
        cases t with
        |true=>simp only[Bt,Av]at hc ⊢;obtain⟨Pb,hv,rfl⟩:=hc;exact⟨Pb,qI hg h1 hv,rfl⟩
        |false=>
          match ds,hc with
          |[d],hc=>
            match cs,h1 with
            |[c],h1=>simp only[Mt.okCs,Bool.and_true]at h1;exact Um hg h1 hc
            |_::_::_,h1=>simp[Mt.okCs]at h1
       rw[h3,anw hg h2 hl];exact hd
def atm(hg:Giv m.v0 m.vks m.θ ρ ρ'){x y:V}(h:m.okV x y=ZB):x=.top\/(y≠.top/\∀{v},y.den ρ j=ZA v->x.den ρ' (m.J j)=ZA v):=by
 unfold Mt.okV at h;split at h
 .exact .inl rfl
 .exact .inr ⟨fun e=>(by cases e),fun hd=>Um hg h hd⟩
 .refine .inr ⟨fun e=>(by cases e),fun hd=> ?_⟩;simp only[V.den,Av]at hd ⊢;obtain⟨l,hl,rfl⟩:=hd;exact⟨l,qI hg (anx h) hl,rfl⟩
 .refine .inr ⟨fun e=>(by cases e),fun hd=> ?_⟩;simp only[V.den,Av]at hd ⊢;obtain⟨l,hl,rfl⟩:=hd;exact⟨l,anw hg h hl,rfl⟩
 .exact ST
def zH{v:V}:∀{t:TT},m.okLf v t=ZB->∀i,m.okV v (t.get i)=ZB
 |.u u,h,i=>h
 |.node l r,h,i=>by
   rw[TT.get_node];by_cases hv:v=.top
   .subst hv;rfl
   .have h':(m.okLf v l&&m.okLf v r)=ZB:=by
     unfold Mt.okLf at h;split at h
     .exact ak rfl hv
     .exact h
    rw[ne]at h';split
    .exact zH h'.1 _
    .exact zH h'.2 _
def uP:∀{t u:TT},m.okTT t u=ZB->∀i,m.okV (t.get i) (u.get i)=ZB
 |.u v,u,h,i=>zH h i
 |.node l r,u,h,i=>by
   simp only[Mt.okTT,ne]at h;rw[TT.get_node];split
   next hi=>rw[<-TT.get_fst u i hi];exact uP h.1 _
   next hi=>rw[<-TT.get_snd u i hi];exact uP h.2 _
def ab5:∀{l r:List (TT×Nat)},m.okOld l r=ZB->fh l=fh r/\∀(i:Nat) x y,jg l i=ZA x->jg r i=ZA y->m.okV x y=ZB
 |[],[],_=>⟨rfl,fun i x y h=>by cases h⟩
 |(t,n)::l,(t',n')::l',h=>by
   simp only[Mt.okOld,ne]at h;obtain rfl:=Ah h.1;obtain⟨h1,h2⟩:=ab5 h.2.2;refine⟨by simp only[fh,h1],fun i x y hx hy=> ?_⟩;unfold jg at hx hy;split at hx
   next hi=>rw[ae hi]at hy;cases hx;cases hy;exact uP h.2.1 i
   next hi=>rw[aa hi]at hy;exact h2 _ x y hx hy
def aqN{l r:TM}(h:m.okVs l r=ZB):l.length=r.length/\∀(i:Nat) x y,l.get? i=ZA x->r.get? i=ZA y->m.okV x y=ZB:=by
 simp only[Mt.okVs,ne]at h;obtain⟨h1,h2,h3⟩:=h;replace h1:=Ah h1;obtain⟨h4,h5⟩:=ab5 h3;refine⟨by unfold TM.length;rw[h1,h4],fun i x y hx hy=> ?_⟩;unfold TM.get? at hx hy;rw[<-h1]at hy;split at hx
 next hi=>rw[ae hi]at hy;cases hx;cases hy;exact uP h2 i
 next hi=>rw[aa hi]at hy;exact h5 _ x y hx hy
def xq{heap:List Ob}:∀{l:List Ob} {a:Nat},m.okHeap heap a l=ZB->∀(i:Nat) ob,l[i]? =ZA ob->m.okOb heap (a+i) ob=ZB
 |[],a,_,i,ob,hi=>by simp at hi
 |x::l,a,h,i,ob,hi=>by
   simp only[Mt.okHeap,ne]at h;cases i with
   |zero=>simp at hi;subst hi;exact h.1
   |succ i=>have:=xq h.2 i ob XM;rwa [show a+(i+1)=a+1+i by omega]
def ai3{hd:List Ob}{h0:Nat}:∀{ex:List (Option Nat)},HS hd h0 ex=ZB->(∀(i:Nat) b,ex[i]? =ZA (ZA b)->b<h0->∃ob,hd[b]? =ZA ob/\ob.isGone=ZB)/\∀(i i':Nat) b,ex[i]? =ZA (ZA b)->ex[i']? =ZA (ZA b)->i=i'
 |[],_=>⟨fun i b h=>by simp at h,fun i i' b h=>by simp at h⟩
 |x::l,h=>by
   have key:HS hd h0 l=ZB/\∀b,x=ZA b->(b<h0->∃ob,hd[b]? =ZA ob/\ob.isGone=ZB)/\∀(i:Nat),l[i]? ≠ZA (ZA b):=by
    cases x with
    |none=>exact⟨h,fun b hb=>by cases hb⟩
    |some b=>
      simp only[HS,ne]at h;refine⟨h.2.2,fun b' hb=> ?_⟩;cases hb;refine⟨fun Ap=> ?_,fun i hi=> ?_⟩
      .have h1:=h.1;rw[ae Ap]at h1;split at h1
       next ob H6=>exact⟨ob,H6,h1⟩
       .cases h1
      .have h2:=Co.1 h.2.1 _ (ew hi);simp at h2
   obtain⟨k1,k2⟩:=key;obtain⟨g1,g2⟩:=ai3 k1;refine⟨fun i b hi hb=> ?_,fun i i' b hi A6=> ?_⟩
   .cases i with
    |zero=>simp at hi;exact(k2 b hi).1 hb
    |succ i=>exact g1 i b XM hb
   .cases i with
    |zero=>
      simp at hi;cases i' with
      |zero=>rfl
      |succ i'=>exact ak (by simpa using A6) ((k2 b hi).2 i')
    |succ i=>
      cases i' with
      |zero=>simp at A6;exact ak XM ((k2 b A6).2 i)
      |succ i'=>rw[g2 i i' b XM (by simpa using A6)]
def agc{heap:List Ob}(h:HS m.hd m.h0 (m.ex.map (Rv heap))=ZB){a a' x:Nat}(hv:R8 heap x=ZC)(h1:m.sig a=ZA (ZA x))(h2:m.sig a'=ZA (ZA x)):a=a':=by
 obtain⟨g1,g2⟩:=ai3 h;have key:∀a,m.sig a=ZA (ZA x)->(a<m.h0/\a=x/\∃ob,m.hd[a]? =ZA ob/\ob.isGone=ZC)\/(m.h0<=a/\(m.ex.map (Rv heap))[a-m.h0]? =ZA (ZA x)):=by
  intro a ha;unfold Mt.sig at ha;split at ha
  all_goals first
   |cases ha;done
   | split at ha
     next H6 Ap=>cases ha;exact .inl ⟨Ap,rfl,_,H6,rfl⟩
     .exact .inr ⟨by omega,by rw[iO,ha];simp[Rv,hv]⟩
 rcases key a h1 with⟨k1,k2,ob,k3,k4⟩|⟨k1,k2⟩<;>rcases key a' h2 with⟨l1,l2,Tv,l3,l4⟩|⟨l1,l2⟩
 .exact Fn
 .subst k2;obtain⟨ob1,q1,q2⟩:=g1 _ _ l2 k1;rw[k3]at q1;cases q1;rw[k4]at q2;cases q2
 .subst l2;obtain⟨ob1,q1,q2⟩:=g1 _ _ k2 l1;rw[l3]at q1;cases q1;rw[l4]at q2;cases q2
 .have:=g2 _ _ _ k2 l2;omega
def qH{heap:List Ob}(h:m.okHeap heap 0 m.hd=ZB){a:Nat}{ob:Ob}(ha:m.hd[a]? =ZA ob):m.okOb heap a ob=ZB:=by have:=xq h a ob ha;rwa [be]at this
def mM{cx:Cx}{tmps:TM}(Ai:m.ok cx vk tmps s=ZB)(hg:Giv m.v0 m.vks m.θ ρ ρ')(h:Rel ρ n X W0 cx.fbs s.fs j a w):Rel ρ' n X W0 cx.fbs (St.mk tmps m.hd).fs (m.J j) a w:=by
 simp only[Mt.ok,ne]at Ai;obtain⟨⟨hT,hH⟩,hX,hF,-,-⟩:=Ai;obtain⟨hl,CU⟩:=aqN hT;have Ky:∀{b:Nat} {ob:Ob},s.heap[b]? =ZA ob->∀{cs ty},ob=.box cs ty->s.fs.row b=ZD:=fun hb _ _ e=>by subst e;simp only[St.fs,Aw,BP,hb]
 have Kx:∀{b:Nat} {ob:Ob},s.heap[b]? =ZA ob->∀{r},ob=.row r->s.fs.box b=ZD:=fun hb _ e=>by subst e;simp only[St.fs,Aw,B8,hb]
 have JH:∀{b cs ty},m.hd[b]? =ZA (.box cs ty)->∃x ds,m.sig b=ZA (ZA x)/\s.heap[x]? =ZA (.box ds ty)/\m.okCs cs ds=ZB:=by
  intro b cs ty hb;have h1:=qH hH hb;simp only[Mt.okOb]at h1;split at h1
  .rename_i x hx;split at h1
   next ds N6 Bw=>simp only[ne]at h1;have:=Ah h1.1;subst this;exact⟨x,ds,hx,Bw,anx h1.2⟩
   .cases h1
  .cases h1
 have jr:∀{b r},m.hd[b]? =ZA (.row r)->(∃x q,m.sig b=ZA (ZA x)/\s.heap[x]? =ZA (.row q)/\r.ks=q.ks/\r.ty=q.ty/\r.own=q.own/\r.l.R ρ'=q.l.R ρ/\m.okK r.kd q.kd=ZB)\/(m.sig b=ZA ZD/\0<r.ks.length/\r.l.R ρ'=[]/\r.kd=CO r.ks):=by
  intro b r hb;have h1:=qH hH hb;simp only[Mt.okOb]at h1;split at h1
  .rename_i x hx;split at h1
   next q hq=>simp only[ne,cb]at h1;exact .inl ⟨x,q,hx,hq,bQ h1.1,Ah h1.2.1,h1.2.2.1,Ul hg h1.2.2.2.1,h1.2.2.2.2⟩
   .cases h1
  .rename_i hx;split at h1
   .cases h1
   next k ks hk=>rw[ne]at h1;exact .inr ⟨hx,by rw[hk];simp,Ul hg h1.1,RK.fits_eq h1.2⟩
  .cases h1
 have NR:∀{b y},m.hd[b]? =ZA (.loop y)->∃x,m.sig b=ZA (ZA x)/\s.heap[x]? =ZA (.loop y):=by
  intro b y hb;have h1:=qH hH hb;simp only[Mt.okOb]at h1;split at h1
  .rename_i x hx;split at h1
   next y' hy=>exact⟨x,hx,by rw[ah0 h1];exact hy⟩
   .cases h1
  .cases h1
 have E9:∀{b},(∀cs ty,m.hd[b]? ≠ZA (.box cs ty))->(∀r,m.hd[b]? ≠ZA (.row r))->(∀y,m.hd[b]? ≠ZA (.loop y))->m.sig b=ZD:=by
  intro b h1 h2 h0;unfold Mt.sig;split
  next hb=>exact ak hb (h1 _ _)
  next hb=>exact ak hb (h2 _)
  next hb=>exact ak hb (h0 _)
  .rfl
 have PL:∀b cs ty,(St.mk tmps m.hd).fs.box b=ZA (cs,ty)->m.hd[b]? =ZA (.box cs ty):=by
  intro b cs ty hb;simp only[St.fs,Aw,B8]at hb;split at hb
  next Gc N6 D8=>cases hb;exact D8
  .cases hb
 have Fi:∀b r,(St.mk tmps m.hd).fs.row b=ZA (ZA r)->m.hd[b]? =ZA (.row r):=by
  intro b r hb;simp only[St.fs,Aw,BP]at hb;split at hb
  next r' D8=>cases hb;exact D8
  .cases hb
  .cases hb
 have Df:∀{x q},s.heap[x]? =ZA (.row q)->s.fs.row x=ZA (ZA q):=fun hx=>by simp only[St.fs,Aw,BP,hx]
 have KV:∀{x cs ty},s.heap[x]? =ZA (.box cs ty)->s.fs.box x=ZA (cs,ty):=fun hx=>by simp only[St.fs,Aw,B8,hx]
 have at1:∀t v,(s.fs.tmp t=.top\/(s.fs.tmp t).den ρ j=ZA v)->((St.mk tmps m.hd).fs.tmp t=.top\/((St.mk tmps m.hd).fs.tmp t).den ρ' (m.J j)=ZA v):=by
  intro t v h2;rcases bn t tmps.length with h3|h3
  .obtain⟨x,hx⟩:=TM.get_some h3;obtain⟨y,hy⟩:=TM.get_some (m:=s.tmps) (i:=t) Fn;have h5:=CU t _ _ hx hy;have e1:(St.mk tmps m.hd).fs.tmp t=x:=by simp[St.fs,Aw,hx]
   have e2:s.fs.tmp t=y:=by simp[St.fs,Aw,hy]
   rw[e1];rw[e2]at h2;rcases atm hg (j:=j) h5 with h6|⟨h6,h7⟩
   .exact .inl h6
   .rcases h2 with h2|h2
    .exact ak h2 h6
    .exact .inr (h7 h2)
  .have e1:(St.mk tmps m.hd).fs.tmp t=.one .undef:=by simp only[St.fs,Aw];rw[TM.get_none.2 h3];rfl
   have e2:s.fs.tmp t=.one .undef:=by simp only[St.fs,Aw];rw[TM.get_none.2 Fn];rfl
   rw[e1];rw[e2]at h2;rcases h2 with h2|h2
   .exact XO
   .exact .inr h2
 refine⟨h.defers,h.size,fun t ht=> ?_,fun i v hi=>at1 _ v (h.sav i v hi),fun b cs ty hb=> ?_,fun b hb=> ?_,fun b b' k hb D8=> ?_,fun b r hb=> ?_,fun b hb=> ?_,fun b b' k r v hb hr hs hk=> ?_,fun b b' r r' v v' k hr ho AM hs Bi hk BZ=> ?_,fun b cs hb=> ?_,h.ext,⟨h.gs.at',fun k o b hz e=> ?_,fun k o id r v hz hr hs hc e=> ?_,h.gs.md,h.gs.nd,fun id y hy=> ?_,fun id hF hy=> ?_,fun id r v hr hs p hp=> ?_,fun id r v hr hk hs=> ?_⟩⟩
 .obtain⟨v,h1,h2⟩:=h.tmp t ht;exact⟨v,h1,at1 t v h2⟩
 .obtain⟨x,ds,h1,h2,h3⟩:=JH (PL b cs ty hb);obtain⟨k,vs,h4,h5,h6,h7⟩:=h.box x ds ty (KV h2);exact⟨k,vs,by simp only[Mt.J,h1];exact h4,h5,qI hg h3 h6,h7⟩
 .simp only[Mt.J];cases hs:m.hd[b]? with
  |none=>rw[E9 XH XH XH]
  |some ob=>
    cases ob with
    |box cs ty=>simp[St.fs,Aw,B8,hs]at hb
    |gone=>rw[E9 XH XH XH]
    |row r=>
      rcases jr hs with⟨x,q,h1,h2,_⟩|⟨h1,_⟩
      .rw[h1];exact h.nob x (Kx h2 rfl)
      .rw[h1]
    |loop y=>obtain⟨x,h1,h2⟩:=NR hs;rw[h1];exact h.nob x (by simp only[St.fs,Aw,B8,h2])
 .simp only[Mt.J]at hb D8;split at hb<;>first|cases hb;done|skip
  rename_i x hx;split at D8<;>first|cases D8;done|skip
  rename_i x' ER;have:=h.inj x x' k hb D8;subst this;refine agc hX ?_ hx ER;unfold R8;split
  next q hq=>have:=h.nob x (Kx hq rfl);rw[hb]at this;cases this
  .rfl
 .rcases jr (Fi b r hb)with⟨x,q,h1,h2,e1,e2,e3,e4,e5⟩|⟨h1,h2,h3,h4⟩
  .obtain⟨v,h5,h6⟩:=h.row x q (Df h2);exact⟨v,by simp only[Mt.J,h1];exact h5,RowOk.swap e1 e2 e3 e4 (ato hg e5) h6⟩
  .refine⟨nilSV,by simp only[Mt.J,h1],?_⟩;rcases cK r.ks with⟨g1,g2⟩|⟨_,g2⟩
   .exact EvOk.row ⟨g1,by rw[h3];rfl,by rw[h3];exact⟨fun r hr=>(by cases hr),by simp⟩,fun k hk=>ak hk lE,fun _ p hp=>Yi,[],by rw[h3];rfl,fun _=>(by rw[h3];exact World.ownsRow_nil _ _ _ _),by rw[h3];exact RdRow.nil,fun i row x hr=>by rw[h3]at hr;simp at hr⟩ (h4.trans g2)
   .refine SlOk.row ⟨by rw[h3];rfl,by rw[h3];exact⟨fun r hr=>(by cases hr),by simp⟩,h2,fun k hk=>ak hk lE,fun _=>(by rw[h3];exact World.ownsRow_nil _ _ _ _),?_⟩ (h4.trans g2);rw[h3];exact RdRow.nil
 .simp only[Mt.J];cases hs:m.hd[b]? with
  |none=>rw[E9 XH XH XH]
  |some ob=>
    cases ob with
    |row r=>simp[St.fs,Aw,BP,hs]at hb
    |gone=>simp[St.fs,Aw,BP,hs]at hb
    |box cs ty=>obtain⟨x,ds,h1,h2,h3⟩:=JH hs;rw[h1];exact h.nor x (Ky h2 rfl)
    |loop y=>obtain⟨x,h1,h2⟩:=NR hs;rw[h1];exact h.nor x (by simp only[St.fs,Aw,BP,h2])
 .simp only[Mt.J]at hb hs;split at hb<;>first|cases hb;done|skip
  rename_i x hx;rcases jr (Fi b' r hr)with⟨x',q,h1,h2,_,_,e3,_⟩|⟨h1,_⟩
  .rw[h1]at hs;exact h.sep x x' k q v hb (Df h2) hs (by rw[<-e3];exact hk)
  .rw[h1]at hs;cases hs;exact lE hk
 .simp only[Mt.J]at hs Bi;rcases jr (Fi b r hr)with⟨x,q,h1,h2,_,_,e3,_⟩|⟨h1,_⟩
  .rcases jr (Fi b' r' AM)with⟨x',q',Gq,h2',_,_,e3',_⟩|⟨Gq,_⟩
   .rw[h1]at hs;rw[Gq]at Bi;have:=h.rsep x x' q q' v v' k (Df h2) (by rw[<-e3];exact ho) (Df h2') hs Bi (by rw[<-e3];exact hk) (by rw[<-e3'];exact BZ);subst this;exact agc hX (by simp only[R8,h2];rw[<-e3,ho];rfl) h1 Gq
   .rw[Gq]at Bi;cases Bi;exact ak BZ lE
  .rw[h1]at hs;cases hs;exact ak hk lE
 .obtain⟨k,vs,h1,h2,h3,h4⟩:=h.fb b cs hb;refine⟨k,vs,h1,h2,qI hg ?_ h3,h4⟩;exact Co.1 hF cs (ew hb)
 .simp only[Mt.J]at e;split at e<;>first|cases e;done|skip
  rename_i x hx;exact h.gs.box k o x hz e
 .simp only[Mt.J]at hs;rcases jr (Fi id r hr)with⟨x,q,h1,h2,_,_,e3,_⟩|⟨h1,_⟩
  .rw[h1]at hs;exact h.gs.row k o x q v hz (Df h2) hs (by rw[<-e3];exact hc) (by rw[<-e3];exact e)
  .rw[h1]at hs;cases hs;exact lE e
 .have Kh:m.hd[id]? =ZA (.loop y):=by
   simp only[St.fs,Aw,GI]at hy;split at hy
   next y' Kh=>cases hy;exact Kh
   .cases hy
  obtain⟨x,h1,h2⟩:=NR Kh;obtain⟨rf,o,h3,h4,h5,h6⟩:=h.gs.lp x y (by simp only[St.fs,Aw,GI,h2]);exact⟨rf,o,h3,by simp only[Mt.J,h1];exact h4,h5,h6⟩
 .simp only[Mt.J];cases hs:m.hd[id]? with
  |none=>rw[E9 XH XH XH]
  |some ob=>
    cases ob with
    |row r=>simp[St.fs,Aw,BP,hs]at hF
    |gone=>simp[St.fs,Aw,BP,hs]at hF
    |loop y=>simp[St.fs,Aw,GI,hs]at hy
    |box cs ty=>obtain⟨x,ds,h1,h2,h3⟩:=JH hs;rw[h1];exact h.gs.nol x (Ky h2 rfl) (by simp only[St.fs,Aw,GI,h2])
 .simp only[Mt.J]at hs;rcases jr (Fi id r hr)with⟨x,q,h1,h2,_,_,e3,_⟩|⟨h1,_⟩
  .rw[h1]at hs;exact h.gs.ev x q v (Df h2) hs p hp
  .rw[h1]at hs;cases hs;cases hp
 .simp only[Mt.J]at hs;rcases jr (Fi id r hr)with⟨x,q,h1,h2,e1,_,_,e4,e5⟩|⟨h1,_,_,h4⟩
  .rw[h1]at hs;have hq:q.kd=.tab:=by
    rw[hk]at e5;cases Gi:q.kd<;>rw[Gi]at e5<;>first|rfl|cases e5
   exact(h.gs.tb x q v (Df h2) hq hs).mono e4 e1 (fun _ _ _ hz=>hz) (fun _ _=>rfl)
  .exact ak (h4.symm.trans hk) zS
def MP(v0:Nat)(θ:List E)(ρ:Env):Env:=⟨fun i=>if v0<=i then(match θ[i-v0]? with|some t=>t.I ρ|none=>0)else ρ.i i,fun i=>if v0<=i then(match θ[i-v0]? with|some t=>t.B ρ|none=>ZC)else ρ.b i,fun i=>if v0<=i then(match θ[i-v0]? with|some t=>t.R ρ|none=>[])else ρ.l i⟩
def aiU(v0:Nat)(vks:List VK)(θ:List E)(ρ:Env):Giv v0 vks θ ρ (MP v0 θ ρ):=by
 refine⟨fun i hi=> ?_,fun m k t _ ht=> ?_,fun m t _ ht=> ?_,fun m ks t _ ht=> ?_⟩
 .have:¬v0<=i:=by omega
  simp[MP,this]
 all_goals simp[MP,ht]
def my{vk:List VK}:∀{vks:List VK} {θ:List E},mz vk vks θ=ZB->θ.length=vks.length
 |[],[],_=>rfl
 |.int k::ks,e::es,h=>by simp only[mz,ne]at h;simp[my h.2]
 |.bool::ks,e::es,h=>by simp only[mz]at h;simp[my h]
 |.list k::ks,e::es,h=>by simp only[mz,ne]at h;simp[my h.2]
 |.int _::_,[],h=>by cases h
 |.bool::_,[],h=>by cases h
 |.list _::_,[],h=>by cases h
def pk{vk:List VK}(hv:Vk ρ vk):∀{vks:List VK} {θ:List E},mz vk vks θ=ZB->(∀(i:Nat) ks t,vks[i]? =ZA (.list ks)->θ[i]? =ZA t->(t.R ρ).length<=maxLen)->okDs vks ((Cr vks θ).D ρ)
 |[],[],_,_=>trivial
 |.int k::ks,e::es,h,hl=>by simp only[mz,ne]at h;exact⟨E.rng_ok hv e h.1,pk hv h.2 (fun i k t h1 h2=>hl (i+1) k t XC XJ)⟩
 |.bool::ks,e::es,h,hl=>by simp only[mz]at h;refine⟨?_,pk hv h (fun i k t h1 h2=>hl (i+1) k t XC XJ)⟩;show Ay (e.B ρ)=0\/Ay (e.B ρ)=1;cases e.B ρ<;>simp[Ay]
 |.list k::ks,e::es,h,hl=>by simp only[mz,ne]at h;exact⟨⟨E.lok_ok hv e h.1,hl 0 k e rfl rfl⟩,pk hv h.2 (fun i k t h1 h2=>hl (i+1) k t XC XJ)⟩
 |.int _::_,[],h,_=>by cases h
 |.bool::_,[],h,_=>by cases h
 |.list _::_,[],h,_=>by cases h
def ale{θ:List E}(h:N0 vk vks θ=ZB):θ.length=vks.length:=my (mt (Rm.ini_ok vk) h)
def aqp(hv:Vk ρ vk){θ:List E}(h:N0 vk vks θ=ZB)(hl:∀(i:Nat) ks t,vks[i]? =ZA (.list ks)->θ[i]? =ZA t->(t.R ρ).length<=maxLen):okDs vks ((Cr vks θ).D ρ):=pk hv (mt (Rm.ini_ok vk) h) hl
def acl{v0:Nat}{hd:List Ob}:∀{vks:List VK} {n:Nat},zO v0 hd n vks=ZB->∀(i:Nat) ks,vks[i]? =ZA (.list ks)->∃r:RowOb,.row r∈hd/\r.l=.g (v0+(n+i))
 |[],n,_,i,ks,hi=>by simp at hi
 |k::l,n,h,i,ks,hi=>by
   cases i with
   |zero=>
     simp only[cH,aU]at hi;subst hi;simp only[zO,ne,List.any_eq_true]at h;obtain⟨ob,h1,h2⟩:=h.1;split at h2
     .rename_i r;rw[ne]at h2;have h3:=h2.1;split at h3
      next m hm=>exact⟨r,h1,by rw[hm,Ah h3];rfl⟩
      .cases h3
     .exact XO
   |succ i=>
     have h':zO v0 hd (n+1) l=ZB:=by cases k<;>first|exact h|(simp only[zO,ne]at h;exact h.2)
     obtain⟨r,h1,h2⟩:=acl h' i ks XM;exact⟨r,h1,by rw[h2];congr 1;omega⟩
def adR{cx:Cx}{tmps:TM}(Ai:m.ok cx vk tmps s=ZB)(hv:Vk ρ vk)(h:Rel ρ n X W0 cx.fbs s.fs j a w):m.θ.length=m.vks.length/\okDs m.vks ((Cr m.vks m.θ).D ρ):=by
 have GG:=mM Ai (aiU m.v0 m.vks m.θ ρ) h;simp only[Mt.ok,ne]at Ai;obtain⟨_,_,_,hR,hL⟩:=Ai;refine⟨ale hR,aqp hv hR (fun i ks t hi ht=> ?_)⟩;obtain⟨r,h1,h2⟩:=acl hL i ks hi;obtain⟨b,hb,he⟩:=List.getElem_of_mem h1;have AG:(St.mk tmps m.hd).fs.row b=ZA (ZA r):=by simp[St.fs,Aw,BP,Az hb,he]
 obtain⟨v,_,h3⟩:=GG.row b r AG;have h4:=h3.rows.len;rw[h2,be]at h4;have h5:=(aiU m.v0 m.vks m.θ ρ).l i ks t hi ht;simp only[E.R]at h4;rw[h5]at h4;exact h4
end
def jh(o:Oper)(ms:List Nat):Nat:=o.after.toList.foldl (fun m e=>if ZX .any e then m ||| (2 ^ e.on ||| ms.getD e.on 0)else m) 0
def uO(ops:Array Oper)(r:Rec)(m:Nat):Nat->List Rec->Bool
 |_,[]=>ZB
 |k,x::pre=>(m.testBit k||SM ops x r)&&uO ops r m (k+1) pre
def Lm(ops:Array Oper):List Rec->Nat->List Rec->List Nat->Bool
 |[],_,_,_=>ZB
 |r::l,i,pre,ms=>
   (r.o.after.toList.all fun e=>!ZX .any e||decide (e.on<i))&&(uO ops r (jh r.o ms) 0 pre&&Lm ops l (i+1) (pre++[r]) (ms++[jh r.o ms]))
section
variable {ops:Array Oper}
def uW{ms:List Nat}{k:Nat}:∀(l:List Edge) (m0:Nat),(l.foldl (fun m e=>if ZX .any e then m ||| (2 ^ e.on ||| ms.getD e.on 0)else m) m0).testBit k=ZB->
  m0.testBit k=ZB\/∃e∈l,ZX .any e=ZB/\(k=e.on\/(ms.getD e.on 0).testBit k=ZB)
 |[],m0,h=>.inl h
 |e::l,m0,h=>by
   simp only[YT]at h;rcases uW l _ h with h1|⟨e',h1,h2⟩
   .split at h1
    .rename_i hb;rw[Nat.testBit_or,Nat.testBit_or,Nat.testBit_two_pow,eu,eu,ax]at h1;rcases h1 with h1|h1|h1
     .exact .inl h1
     .exact .inr ⟨e,bG,hb,.inl h1.symm⟩
     .exact .inr ⟨e,bG,hb,.inr h1⟩
    .exact .inl h1
   .exact .inr ⟨e',cm _ h1,h2⟩
def abZ{r:Rec}{m:Nat}:∀(pre:List Rec) (k0:Nat),uO ops r m k0 pre=ZB->∀(k:Nat) x,pre[k]? =ZA x->m.testBit (k0+k)=ZB\/Indep ops x r
 |y::pre,k0,h,k,x,hk=>by
   simp only[uO,ne,eu]at h;cases k with
   |zero=>simp only[cH,aU]at hk;subst hk;exact h.1.imp id acy
   |succ k=>have:=abZ pre (k0+1) h.2 k x (by simpa using hk);rwa [ZU,Nat.add_comm 1 k]at this
 |[],_,_,k,x,hk=>by simp at hk
def ahE(P7:∀(i:Nat) r,∀L:List Rec,ops.toList=L.map (·.o)->L[i]? =ZA r->ops[i]? =ZA r.o):∀(post pre:List Rec) (ms:List Nat),ops.toList=(pre++post).map (·.o)->Lm ops post pre.length pre ms=ZB->ms.length=pre.length->
  (∀(i:Nat),i<ms.length->∀k,(ms.getD i 0).testBit k=ZB->∀A2,iI ops A2->(∀o,ops[i]? =ZA o->∀e∈o.after,ZX .any e=ZB->A2 e.on=ZB)->A2 k=ZB)->
  (∀(i:Nat) r,pre.length<=i->(pre++post)[i]? =ZA r->∀e∈r.o.after,ZX .any e=ZB->e.on<i)/\
  (∀(k i:Nat) x r,k<i->pre.length<=i->(pre++post)[k]? =ZA x->(pre++post)[i]? =ZA r->Indep ops x r\/∀A2,iI ops A2->(∀o,ops[i]? =ZA o->∀e∈o.after,ZX .any e=ZB->A2 e.on=ZB)->A2 k=ZB)
 |[],pre,ms,hl,h,hm,hms=>by
   have ZD:∀(i:Nat) r,pre.length<=i->¬(pre++[])[i]? =ZA r:=fun i r hi hr=>by rw[YO,bN hi]at hr;cases hr
   exact⟨fun i r hi hr=>ak hr (ZD i r hi),fun k i x r _ hi _ hr=>ak hr (ZD i r hi)⟩
 |r0::post,pre,ms,hl,h,hm,hms=>by
   simp only[Lm,ne]at h;obtain⟨h1,h2,h3⟩:=h;have e1:pre++r0::post=(pre++[r0])++post:=by simp
   have LD:ops[pre.length]? =ZA r0.o:=P7 pre.length r0 _ hl (by simp);have LP:∀k,(jh r0.o ms).testBit k=ZB->∀A2,iI ops A2->(∀o,ops[pre.length]? =ZA o->∀e∈o.after,ZX .any e=ZB->A2 e.on=ZB)->A2 k=ZB:=by
    intro k hk A2 hc he;rcases uW _ 0 hk with h4|⟨e,h4,h5,h6⟩
    .simp at h4
    .have PQ:e∈r0.o.after:=by simpa using h4
     have hs:=he _ LD e PQ h5;rcases h6 with rfl|h6
     .exact hs
     .rcases bn e.on ms.length with h7|h7
      .exact hms e.on h7 k h6 A2 hc (fun o ho e' Gx hb=>hc e.on o ho hs e' Gx hb)
      .rw[bh,bN h7]at h6;simp at h6
   obtain⟨g1,g2⟩:=ahE P7 post (pre++[r0]) (ms++[jh r0.o ms]) (by rw[<-e1];exact hl) (by simpa using h3) (by simp[hm]) (fun i hi k hk=>by
    rcases bn i ms.length with h4|h4
    .rw[bh,AW h4,<-bh]at hk;exact hms i h4 k hk
    .have:i=ms.length:=by simp at hi;omega
     subst this;rw[bh,Bc (YJ _)]at hk;simp only[Nat.sub_self,cH,Option.getD_some]at hk;rw[hm];exact LP k hk)
   rw[e1];refine⟨fun i r hi hr=> ?_,fun k i x r hk hi hx hr=> ?_⟩
   .rcases bn pre.length i with h4|h4
    .exact g1 i r Xz hr
    .have:i=pre.length:=by omega
     subst this;have:r=r0:=by simpa using hr.symm
     subst this;intro e he hb;have:=Co.1 h1 e Yw;simpa[hb]using this
   .rcases bn pre.length i with h4|h4
    .exact g2 k i x r hk Xz hx hr
    .have:i=pre.length:=by omega
     subst this;have:r=r0:=by simpa using hr.symm
     subst this;rw[<-e1,AW hk]at hx;rcases abZ pre 0 h2 k x hx with h5|h5
     .rw[be]at h5;exact .inr (LP k h5)
     .exact .inl h5
end
def SK(f:St->Kw->(Sig->St->Kw->Tr)->Tr):Nat->St->Kw->(Sig->St->Kw->Tr)->Tr
 |0,_,_,_=>.stuck 73
 |n+1,s,kw,k=>f s kw fun sg s kw=>match sg with
   |.normal=>SK f n s kw k
   |sg=>k sg s kw
def DX:Code->Option Nat
 |.region id _ _=>ZA id
 |.seq a b=>(match DX a with|some i=>ZA i|none=>DX b)
 |.block _ c=>DX c
 |.loop c=>DX c
 |.cond _ x y=>(match DX x with|some i=>ZA i|none=>DX y)
 |_=>ZD
def anW(c:Code)(l:List (Nat×List Pl)):Option (Nat×List Pl):=match DX c with
 |some i=>(aj i l).map (i,·)
 |none=>ZD
def Kw.head(kw:Kw)(vks:List VK):Kw:=⟨kw.pc.filter fun p=>p.1.sc kw.vk.length,[],kw.vk++vks,kw.lv+1⟩
def SN(cx:Cx)(lv v0:Nat)(vks:List VK)(hd:St)(h0:Nat)(pls:List Pl)(s:St)(kw:Kw):Tr:=match MD pls s with
 |some (θ,ex)=>if Mt.ok ⟨v0,vks,θ,h0,ex,hd.heap⟩ cx kw.vk hd.tmps s then .next lv (Cr vks θ)else .stuck 110
 |none=>.stuck 111
abbrev HK:=Nat->List V->St->Kw->(V->St->Kw->Tr)->Tr
def yB:Nat:=1000000
structure RfS where
 ps:Array Nat
 assign:Code
 body:Code
 dep:Nat
 len:Nat
 hints:List (Nat×List Pl)
 cuts:List (Nat×List Pl)
abbrev RlK:=RfS->HK
def uQ(heap:List Ob):Bool:=heap.all Ob.noLp
def qQ:Operand->Bool
 |.const (.slice ZD 0 0)=>ZB
 |_=>ZC
def Wg(cx:Cx)(o:Oper):Bool:=match o.op with
 |.next _ ZC=>ZB
 |.binOp .eql _ _ y _=>qQ y
 |.call c=>(match cx.fns with
   |[]=>ZC
   |_::_=>match c.callee with
     |.value (.func g)=>!(cx.sm.any fun s=>ZI s.f g)
     |.value (.tmp _)=>ZB
     |_=>ZC)
 |_=>ZC
def gB:Nat->List Oper->List (Nat×Oper)
 |_,[]=>[]
 |i,o::l=>(i,o)::gB (i+1) l
def na(cx:Cx):List (Nat×Oper)->Option (Nat×Oper)
 |[]=>ZD
 |p::l=>if Wg cx p.2 then ZA p else na cx l
def gq(ops:Array Oper):List Nat:=ops.toList.foldl (fun ms o=>ms++[jh o ms]) []
def IS:Option (Bool×Nat×Nat)->V
 |none=>.one .np
 |some (ZB,b,o)=>.one (.ptr b o)
 |some (ZC,b,o)=>.one (.fp b o)
def Kj(cl:HK)(o:Oper)(g:Nat)(args:List V)(s:St)(kw:Kw)(k:St->Kw->Tr):Tr:=
 cl g args s kw fun v s' Ak=>match o.dst with
  |none=>k s' Ak
  |some d=>if Nat.blt d s'.n then k ⟨s'.tmps.set d v,s'.heap⟩ Ak else .stuck 60
def av4(cx:Cx)(s:St)(kw:Kw)(o:Oper):Bool:=
 match o.op with
 |.call c=>match c.callee with
   |.value f=>match Ha s.n s.tmps f,DM (Ha s.n s.tmps) c.args.toList with
     |some (.one (.fn g)),ZA args=>(sV kw.vk (s.vw cx) g args cx.sm).isSome
     |_,_=>ZC
   |_=>ZC
 |_=>ZC
def V6(sl n:E)(v:Nat):E:=.and (.not (.lt (.w v) (.p 0))) (.and (.lt (.w v) n) (.not (.lt (.mix sl (.cons (.w v) .nil)) (bY sl))))
def oT(s:St)(kw:Kw):Mt:=⟨kw.vk.length,[],[],s.heap.length,[],s.heap⟩
def MC(cx:Cx)(o:Oper)(id mid:Nat)(s:St)(kw:Kw)(k:St->Kw->Tr):Tr:=
 match HJ s.heap id,HJ s.heap mid with
 |some q,ZA r=>match q.kd,r.kd with
   |.it _ n,.map nk ka va=>
     if(n.same (bY r.l)&&(decide (nk<=r.ks.length)&&((ka||Nat.beq nk 1)&&(va||Nat.beq (r.ks.drop nk).length 1))))&&Mt.ok (oT s kw) cx kw.vk s.tmps s then
      AB (A8 (bY q.l) n) (fun b kw=>if b then
       .any kw.vk.length (V6 q.l n kw.vk.length) (match s.app o.dst {val:=.tup [(ZC,[.bool (.tt ZB)]),(ka,eK r.l (.w kw.vk.length) 0 (r.ks.take nk)),(va,eK r.l (.w kw.vk.length) nk (r.ks.drop nk))],re:=.set id {q with l:=.lq q.l (.cons (.w kw.vk.length) .nil)}}with
        |some s'=>k s' (kw.head [.int .i64])
        |none=>.stuck 60)
      else match s.app o.dst {val:=.tup [(ZC,[.bool (.tt ZC)])]}with
       |some s'=>k s' kw
       |none=>.stuck 60) kw
     else .stuck 155
   |_,_=>.stuck 156
 |_,_=>.stuck 157
def NT(l:E)(v:Nat):E:=.not (.and (.eq (.w v) (.p 0)) (.lt (.p 0) (bY l)))
def NU(cx:Cx)(o:Oper)(xt id:Nat)(s:St)(kw:Kw)(k:St->Kw->Tr):Tr:=
 match HJ s.heap id,aj xt cx.ty with
 |some r,ZA i=>
   if r.kd.isSl&&(i.sle.isSome&&Mt.ok (oT s kw) cx kw.vk s.tmps s)then
    .any kw.vk.length (NT r.l kw.vk.length) (match s.app o.dst {val:=.one (.bool (.eq (.w kw.vk.length) (.p 0)))}with
     |some s'=>k s' (kw.head [.int .i64])
     |none=>.stuck 60)
   else .stuck 191
 |_,_=>.stuck 192
def S9(cl:HK)(cx:Cx)(o:Oper)(s:St)(kw:Kw)(k:St->Kw->Tr):Tr:=
 match o.op with
 |.binOp .eql xt x y _=>if qQ y then(match Ha s.n s.tmps x with
   |some (.one (.sl id))=>NU cx o xt id s kw k
   |some (.one .nsl)=>(match aj xt cx.ty with
     |some i=>if i.sle.isSome then(match s.app o.dst {val:=.one (.bool (.tt ZB))}with
       |some s'=>k s' kw
       |none=>.stuck 60)else .stuck 193
     |none=>.stuck 193)
   |_=>.stuck 194)else .stuck 195
 |.call c=>match c.callee with
   |.value f=>match Ha s.n s.tmps f,DM (Ha s.n s.tmps) c.args.toList with
     |some (.one (.fn g)),ZA args=>if Nat.blt g yB then Kj cl o g args s kw k else .stuck 208
     |some (.one (.clo g fs ps)),ZA args=>if Nat.blt g yB then Kj cl o g (fs.map IS++args++ps.map IS) s kw k else .stuck 208
     |some (.one (.yld id)),ZA args=>Kj cl o (yB+id) args s kw k
     |_,_=>.stuck 123
   |_=>.stuck 124
 |.next x ZC=>match Ha s.n s.tmps x with
   |some (.one (.itp id mid))=>MC cx o id mid s kw k
   |_=>.stuck 158
 |_=>.stuck 125
def Sx(o:Oper)(s:St)(kw:Kw)(k:St->Kw->Tr):Tr:=match s.app o.dst {val:=.one .undef}with
 |some s'=>k s' kw
 |none=>.stuck 60
def KU(cl:HK)(cx:Cx)(ops:Array Oper)(o:Oper)(s:St)(kw:Kw)(k:St->Kw->Tr):Tr:=
 if av4 cx s kw o then Et cx ops [o] s kw fun _ s kw=>k s kw else
 match o.guard with
 |none=>S9 cl cx o s kw k
 |some (g,b)=>match((ops[g]?).bind (·.dst)).bind (fun t=>if Nat.blt t s.n then s.tmps.get? t else ZD)with
   |some (.one (.bool e))=>AB e (fun x kw=>if x==b then S9 cl cx o s kw k else Sx o s kw k) kw
   |some (.one .undef)=>Sx o s kw k
   |_=>.stuck 61
def Ji(cl:HK)(cx:Cx)(ops:Array Oper):List Oper->St->Kw->(St->Kw->Tr)->Tr
 |[],s,kw,k=>k s kw
 | o::l,s,kw,k=>if Wg cx o then KU cl cx ops o s kw fun s kw=>Ji cl cx ops l s kw k
   else Et cx ops [o] s kw fun _ s kw=>Ji cl cx ops l s kw k
def awt(ops:Array Oper)(A2:Nat->Bool)(i:Nat)(o:Oper):Bool:=
 (gB 0 ops.toList).all fun p=>ZI p.1 i||(A2 p.1||((p.2.after.toList.any fun e=>ZX .any e&&ZI e.on i)||o.apart ops p.2))
def Uu(cx:Cx)(ops:Array Oper)(A2:Nat->Bool)(i:Nat)(o:Oper):Bool:=
 o.guard.isNone&&((match o.op with
  |.move _=>ZB
  |.assign _=>ZB
  |.fieldAddr s _ f=>(match aj s cx.ty with
    |some i=>(i.fields[f]?).isSome
    |none=>ZC)
  |.indexAddr _ _ _=>ZB
  |.nilCheck _=>ZB
  |.slice _ _ _ _ _=>ZB
  |_=>ZC)&&(Region.noSelect ops&&awt ops A2 i o))
def nq(ms:List Nat)(i k:Nat):Bool:=(ms.getD i 0).testBit k
def RC(ops:Array Oper)(ms:List Nat)(p:Nat×Rec):List (Nat×Rec)->Bool
 |[]=>ZB
 |q::l=>(nq ms p.1 q.1||SM ops q.2 p.2)&&RC ops ms p l
def pg(ops:Array Oper)(ms:List Nat):List (Nat×Rec)->List (Nat×Rec)->Bool
 |_,[]=>ZB
 |pre,p::l=>RC ops ms p pre&&pg ops ms (pre++[p]) l
def Sv(cx:Cx)(ops:Array Oper)(ms:List Nat)(L:List (Nat×Rec))(Im:List (Nat×Oper)):Bool:=
 pg ops ms [] L&&((L.all fun p=>p.2.o.after.toList.all fun e=>!ZX .any e||(Nat.blt e.on p.1&&(Im.all fun q=>!ZI q.1 e.on)))&&
  (Im.all fun q=>L.all fun p=>nq ms q.1 p.1||Uu cx ops (fun k=>!(Im.any fun q=>ZI q.1 k) &&!(L.any fun q=>ZI q.1 k &&!Nat.blt k p.1)) p.1 p.2.o))
def tB(ops:Array Oper):Bool:=(ops.toList.all fun o=>match o.op with|.defer _=>ZC|_=>ZB)&&(gB 0 ops.toList).all fun p=>p.2.after.toList.all fun e=>!ZX .any e||Nat.blt e.on p.1
def av0(o:Oper):Bool:=match o.op with
 |.move _=>ZB
 |.assign _=>ZB
 |.fieldAddr _ _ _=>ZB
 |.indexAddr _ _ _=>ZB
 |.nilCheck _=>ZB
 |.slice _ _ _ _ _=>ZB
 |_=>ZC
def Lq(cl:HK)(cx:Cx)(ops:Array Oper)(ms:List Nat):Nat->List (Nat×Oper)->St->Kw->(St->Kw->Tr)->Tr
 |0,_,_,_,_=>.stuck 126
 |m+1,C3,s,kw,k=>match na cx C3 with
   |none=>Et cx ops (C3.map (·.2)) s kw fun rs s' Ak=>if Sv cx ops ms ((C3.map (·.1)).zip rs) []then k s' Ak else .stuck 70
   |some (ci,co)=>
     let A:=C3.filter fun p=>!ZI p.1 ci &&!nq ms p.1 ci;let B:=C3.filter fun p=>nq ms p.1 ci &&!ZI p.1 ci
     match A.find? (fun p=>!nq ms ci p.1 &&!av0 p.2)with
     |none=>Et cx ops (A.map (·.2)) s kw fun rs s' Ak=>if Sv cx ops ms ((A.map (·.1)).zip rs) ((ci,co)::B)then
      KU cl cx ops co s' Ak fun s kw=>Lq cl cx ops ms m B s kw k
       else .stuck 127
     |some _=>.stuck 127
def yu(v:Option V)(id:Nat):Option (Nat×List V):=match v with
 |some (.one (.fn g))=>ZA (g,[.one (.yld id)])
 |some (.one (.clo g fs ps))=>ZA (g,fs.map IS++[.one (.yld id)]++ps.map IS)
 |_=>ZD
def gI(cl:HK)(rl:Option RlK)(cx:Cx)(fuel:Nat):Code->St->Kw->(Sig->St->Kw->Tr)->Tr
 |.skip,s,kw,k=>k .normal s kw
 |.label _,s,kw,k=>k .normal s kw
 |.region _ ops draw,s,kw,k=>match na cx (gB 0 ops.toList)with
   |none=>Et cx ops ops.toList s kw fun rs s' Ak=>if draw then(if Lm ops rs 0 [] []then k .normal s' Ak else .stuck 70)else k .normal s' Ak
   |some _=>if draw then if tB ops then Lq cl cx ops (gq ops) (ops.size+1) (gB 0 ops.toList) s kw (k .normal)else .stuck 128 else Ji cl cx ops ops.toList s kw (k .normal)
 |.seq a b,s,kw,k=>match anW b cx.cuts with
   |none=>gI cl rl cx fuel a s kw fun sg s kw=>match sg with
     |.normal=>gI cl rl cx fuel b s kw k
     |sg=>k sg s kw
   |some (id,pls)=>match pls with
     |[.ask]=>gI cl rl cx fuel a s kw fun sg s kw=>match sg with
       |.normal=>.at id s
       |sg=>k sg s kw
     |pls=>match JD kw.vk.length pls (s,[])with
       | some (hd,vks)=>.cut kw.lv kw.vk.length vks
        (gI cl rl cx fuel a s {kw with lv:=kw.lv+1} fun sg s' Ak=>match sg with
         |.normal=>SN cx kw.lv kw.vk.length vks hd s.heap.length pls s' Ak
         |sg=>k sg s' Ak)
        (gI cl rl cx fuel b hd (kw.head vks) k)
       |none=>.stuck 114
 |.cond c x y,s,kw,k=>match Ha s.n s.tmps c with
   |some (.one (.bool e))=>AB e (fun t kw=>if t then gI cl rl cx fuel x s kw k else gI cl rl cx fuel y s kw k) kw
   |_=>.stuck 71
 |.block id c,s,kw,k=>gI cl rl cx fuel c s kw fun sg s kw=>match sg with
   |.exit i=>if ZI i id then k .normal s kw else k (.exit i) s kw
   |sg=>k sg s kw
 |.loop c,s,kw,k=>match anW c cx.hints with
   |none=>SK (gI cl rl cx fuel c) fuel s kw k
   |some (id,pls)=>match pls with
     |[.ask]=>.at id s
     |pls=>match JD kw.vk.length pls (s,[]),MD pls s with
       |some (hd,vks),ZA (θ,ex)=>
         if Mt.ok ⟨kw.vk.length,vks,θ,s.heap.length,ex,hd.heap⟩ cx kw.vk hd.tmps s then
          .loop kw.lv kw.vk.length vks (Cr vks θ) (gI cl rl cx fuel c hd (kw.head vks) fun sg s' Ak=>match sg with
           |.normal=>SN cx kw.lv kw.vk.length vks hd s.heap.length pls s' Ak
           |sg=>k sg s' Ak)
         else .stuck 112
       |_,_=>.stuck 113
 |.exit id,s,kw,k=>k (.exit id) s kw
 |.ret,s,kw,k=>k .ret s kw
 |.scope c,s,kw,k=>gI cl rl cx fuel c s kw k
 |.rangeFunc f ps assign body,s,kw,k=>match rl,yu (Ha s.n s.tmps f) s.heap.length with
   |some rl,ZA (g,args)=>if Nat.blt g yB&&uQ s.heap then
    rl ⟨ps,assign,body,fh s.tmps.old,s.n,cx.hints,cx.cuts⟩ g args ⟨s.tmps,s.heap++[.loop ⟨.ready,ZD⟩]⟩ kw fun _ s' Ak=>match s'.heap[s.heap.length]? with
     |some (.loop y)=>(match y.st with
       |.busy=>.stuck 201
       |_=>if uQ (s'.heap.set s.heap.length .gone)then(match y.pend with
         |none=>k .normal ⟨s'.tmps,s'.heap.set s.heap.length .gone⟩ Ak
         |some .normal=>.stuck 207
         |some sg=>k sg ⟨s'.tmps,s'.heap.set s.heap.length .gone⟩ Ak)else .stuck 202)
     |_=>.stuck 203
     else .stuck 204
   |_,_=>.stuck 205
 |_,_,_,_=>.stuck 72
def Sig.exit':Sig->Exit
 |.normal=>.normal
 |.exit id=>.exit id
 |.ret=>.ret
section
variable {P:Program}{sp:Spec}{ρ:Env}{G:Env->E->Prop}{I:Nat->List Dt->Prop}{cx:Cx}{n:Nat}{X:List Value}{W0:Wb}
structure At(cx:Cx)(ρ:Env)(n:Nat)(X:List Value)(W0:Wb)(s:St)(j:J)(a:Act)(w:World):Prop where
 rel:Rel ρ n X W0 cx.fbs s.fs j a w
 len:s.tmps.length=n+X.length
 own:s.n=n
def anU{ops:Array Oper}(i:Nat)(r:Rec)(L:List Rec)(hl:ops.toList=L.map (·.o))(hi:L[i]? =ZA r):ops[i]? =ZA r.o:=by rw[<-lr,hl,iO,hi];rfl
def ac6{p:Pl}{x y:St×List VK}(h:MA v0 p x=ZA y):y.1.tmps.length=x.1.tmps.length/\y.1.n=x.1.n:=by
 unfold MA at h;cases p<;>dsimp only at h<;>first
  |(split at h<;>first|(cases h;exact⟨rfl,rfl⟩)|cases h)
  |(rw[Av]at h;obtain⟨_,_,rfl⟩:=h;exact⟨rfl,rfl⟩)
  |(cases h;exact⟨rfl,rfl⟩)
  |cases h
def kM{v0:Nat}:∀{l:List Pl} {x y:St×List VK},JD v0 l x=ZA y->y.1.tmps.length=x.1.tmps.length/\y.1.n=x.1.n
 |[],x,y,h=>by cases h;exact⟨rfl,rfl⟩
 |p::l,x,y,h=>by simp only[JD,cW]at h;obtain⟨z,h1,h2⟩:=h;rw[(kM h2).1,(kM h2).2,(ac6 h1).1,(ac6 h1).2];exact⟨rfl,rfl⟩
def mV{ρ':Env}{kw:Kw}(hg:Good sp cx.sm ρ kw)(ha:Ag kw.vk.length ρ ρ')(hd:okDs vks (varsD ρ' kw.vk.length vks)):Good sp cx.sm ρ' (kw.head vks):=by
 refine⟨fun p hp=> ?_,?_,fun p hp=>by cases hp⟩
 .have h1:=List.mem_filter.1 hp;rw[<-(E.sc_eq ha p.1 (by simpa using h1.2)).2.1];exact hg.pc p h1.1
 .have key:∀(vks:List VK) (n:Nat),okDs vks (varsD ρ' n vks)->(∀(i:Nat) k,vks[i]? =ZA (.int k)->Aj k (ρ'.i (n+i))=ZB)/\∀(i:Nat) ks,vks[i]? =ZA (.list ks)->RowsIn ks (ρ'.l (n+i)):=by
   intro vks
   induction vks with
   |nil=>intro n _;exact⟨fun i k h=>by simp at h,fun i k h=>by simp at h⟩
   |cons x l ih=>
     intro n h;obtain⟨h1,h2⟩:=h;obtain⟨i1,i2⟩:=ih (n+1) h2;refine⟨fun i k hk=> ?_,fun i ks hk=> ?_⟩
     .cases i with
      |zero=>simp at hk;subst hk;exact h1
      |succ i=>have:=i1 i k (by simpa using hk);rwa [show n+(i+1)=n+1+i by omega]
     .cases i with
      |zero=>simp at hk;subst hk;exact h1
      |succ i=>have:=i2 i ks (by simpa using hk);rwa [show n+(i+1)=n+1+i by omega]
  obtain⟨k1,k2⟩:=key vks _ hd;constructor
  .intro i k hk;rcases bn i kw.vk.length with Ap|Dp
   .simp only[Kw.head]at hk;rw[AW Ap]at hk;rw[<-(ha i Ap).1];exact hg.vk.i i k hk
   .simp only[Kw.head]at hk;rw[Bc Dp]at hk;have:=k1 _ k hk;rwa [show kw.vk.length+(i-kw.vk.length)=i by omega]at this
  .intro i k hk;rcases bn i kw.vk.length with Ap|Dp
   .simp only[Kw.head]at hk;rw[AW Ap]at hk;rw[<-(ha i Ap).2.2];exact hg.vk.l i k hk
   .simp only[Kw.head]at hk;rw[Bc Dp]at hk;have:=k2 _ k hk;rwa [show kw.vk.length+(i-kw.vk.length)=i by omega]at this
def UI(cx:Cx)(n:Nat)(X:List Value)(W0:Wb)(ρ:Env)(v0:Nat)(vks:List VK)(hd:St)(ds:List Dt)(a:Act)(w:World):Prop:=∃j,∀ρ',Ag v0 ρ ρ'->varsD ρ' v0 vks=ds->At cx ρ' n X W0 hd j a w
def sI{ρ2:Env}{θ:List E}{h0:Nat}{ex:List (Option Nat)}{hd:St}(Ai:Mt.ok ⟨v0,vks,θ,h0,ex,hd.heap⟩ cx vk hd.tmps s=ZB)(hv:Vk ρ2 vk)(hl:hd.tmps.length=n+X.length/\hd.n=n)(ha:Ag v0 ρ ρ2)(hr:At cx ρ2 n X W0 s j a w):
  okDs vks ((Cr vks θ).D ρ2)/\UI cx n X W0 ρ v0 vks hd ((Cr vks θ).D ρ2) a w:=by
 obtain⟨h1,h2⟩:=adR Ai hv hr.rel;refine⟨h2,_,fun ρ3 h3 h4=>⟨mM Ai (auD (ha.symm.trans h3) h1 h4) hr.rel,hl.1,hl.2⟩⟩
def acb{ρ2:Env}{lv:Nat}{h0:Nat}{pls:List Pl}{hd:St}{kw:Kw}(h:(SN cx lv v0 vks hd h0 pls s kw).holds sp G ρ2 I)(hv:Vk ρ2 kw.vk)(hl:hd.tmps.length=n+X.length/\hd.n=n)(ha:Ag v0 ρ ρ2)(hr:At cx ρ2 n X W0 s j a w):
  ∃ds,I lv ds/\okDs vks ds/\UI cx n X W0 ρ v0 vks hd ds a w:=by
 unfold SN at h;split at h
 .split at h
  next Ai=>obtain⟨h1,h2⟩:=sI Ai hv hl ha hr;exact⟨_,h,h1,h2⟩
  .exact h.elim
 .exact h.elim
def Tie(sp:Spec)(ry:Option RfS)(X:List Value)(W0:Wb):Prop:=W0.hw=sp.hw/\match ry with
 |none=>True
 |some r=>∃(rf:Rf) (A B:List Value),W0.rf=ZA rf/\rf.ps=r.ps/\rf.assign=r.assign/\rf.body=r.body/\rf.tmps.size=r.len/\X=A++(rf.tmps.toList++B)/\B.length=r.dep
def Tie.more{ry:Option RfS}(h:Tie sp ry X W0)(L:List Value):Tie sp ry (L++X) W0:=by
 cases ry with
 |none=>exact⟨h.1,trivial⟩
 |some r=>obtain⟨h0,rf,A,B,h1,h2,h3,h4,h5,h6,h7⟩:=h;exact⟨h0,rf,L++A,B,h1,h2,h3,h4,h5,by rw[h6,List.append_assoc],h7⟩
structure CallOk(P:Program)(sp:Spec)(G:Env->E->Prop)(cx:Cx)(ry:Option RfS)(cl:HK):Prop where
 call:∀(g:Nat) (args:List V) (s:St) (kw:Kw) (k:V->St->Kw->Tr) (R:Value->World->Prop) (ρ:Env) (I:Nat->List Dt->Prop) (n:Nat) (X:List Value) (W0:Wb) (j:J) (a:Act) (w:World) (vals:List Value),g<yB->
  (cl g args s kw k).holds sp G ρ I->Good sp cx.sm ρ kw->At cx ρ n X W0 s j a w->Tie sp ry (a.tmps.toList++X) W0->vals.length=args.length->(∀(i:Nat) x,args[i]? =ZA x->∃u,vals[i]? =ZA u/\x.den ρ j=ZA u)->
  (∀v s' Ak ρ' I' j' w' u,(k v s' Ak).holds sp G ρ' I'->Good sp cx.sm ρ' Ak->Ag kw.vk.length ρ ρ'->(∀m,m<kw.lv->I' m=I m)->kw.lv<=Ak.lv->kw.vk.length<=Ak.vk.length->v.den ρ' j'=ZA u->At cx ρ' n X W0 s' j' a w'->R u w')->
  (callFunc g vals.toArray).run P w=.ok (.enter g vals.toArray) w/\Calls P g vals.toArray w fun e w'=>∃u,e=.returned u/\R u w'
 yld:∀(id:Nat) (args:List V) (s:St) (kw:Kw) (k:V->St->Kw->Tr) (R:Value->World->Prop) (ρ:Env) (I:Nat->List Dt->Prop) (n:Nat) (X:List Value) (W0:Wb) (j:J) (a:Act) (w:World) (vals:List Value) (l:Nat),
  (cl (yB+id) args s kw k).holds sp G ρ I->Good sp cx.sm ρ kw->At cx ρ n X W0 s j a w->Tie sp ry X W0->j.g.y id=ZA l->vals.length=args.length->(∀(i:Nat) x,args[i]? =ZA x->∃u,vals[i]? =ZA u/\x.den ρ j=ZA u)->
  (∀v s' Ak ρ' I' j' w' u,(k v s' Ak).holds sp G ρ' I'->Good sp cx.sm ρ' Ak->Ag kw.vk.length ρ ρ'->(∀m,m<kw.lv->I' m=I m)->kw.lv<=Ak.lv->kw.vk.length<=Ak.vk.length->v.den ρ' j'=ZA u->At cx ρ' n X W0 s' j' a w'->R u w')->
  ∃f tmps assign body,(Instr.yield l vals.toArray).run P w=.ok (.round l f tmps assign body) w/\∀ro,RoundIn (Fw ro) 0 P l f tmps assign body w fun e w'=>∃u,e=.returned u/\R u w'
def IQ(P:Program)(sp:Spec)(G:Env->E->Prop)(cx:Cx)(ry:Option RfS)(cl:HK)(X:List Value)(W0:Wb):Prop:=CallOk P sp G cx ry cl/\Tie sp ry X W0
structure Nx(kw Ak:Kw)(ρ ρ':Env)(I I':Nat->List Dt->Prop):Prop where
 ag:Ag kw.vk.length ρ ρ'
 inv:∀m,m<kw.lv->I' m=I m
 lv:kw.lv<=Ak.lv
 vk:kw.vk.length<=Ak.vk.length
def Nx.refl(kw:Kw)(ρ:Env)(I:Nat->List Dt->Prop):Nx kw kw ρ ρ I I:=⟨.refl _ _,fun _ _=>rfl,YJ _,YJ _⟩
def Nx.of{kw Ak:Kw}(h:KwGe Ak kw)(ρ:Env)(I:Nat->List Dt->Prop):Nx kw Ak ρ ρ I I:=⟨.refl _ _,fun _ _=>rfl,by rw[h.lv];exact YJ _,h.vk⟩
def Nx.trans{a b c:Kw}{ρ ρ' ρ'':Env}{I I' I'':Nat->List Dt->Prop}(h:Nx a b ρ ρ' I I')(h':Nx b c ρ' ρ'' I' I''):Nx a c ρ ρ'' I I'':=⟨h.ag.trans (h'.ag.mono h.vk),fun m hm=>(h'.inv m (nD hm h.lv)).trans (h.inv m hm),cO h.lv h'.lv,cO h.vk h'.vk⟩
end
open Go.ChangeMaps (setBlock)
open Go
section
variable {P:Program}{sp:Spec}{ρ:Env}{G:Env->E->Prop}{I:Nat->List Dt->Prop}{cx:Cx}{cl:HK}{n:Nat}{X:List Value}{W0:Wb}{ops:Array Oper}{ro:Option Nat}{ry:Option RfS}
def At.ev(h:At cx ρ n X W0 s j a w){v:V}(hx:Ha s.n s.tmps x=ZA v):v.den ρ j=ZA (a.eval x):=by refine h.rel.eval (x:=x) ?_;have:=ai4 s s.le x;rw[h.own]at this hx;rw[this];exact hx
def At.le(h:At cx ρ n X W0 s j a w):s.n<=s.tmps.length:=s.le
def nh{j:J}:∀{l:List (Option (Bool×Nat×Nat))} {vs:List Value},fg j l=ZA vs->vs.length=(l.map IS).length/\∀(i:Nat) x,(l.map IS)[i]? =ZA x->∃u,vs[i]? =ZA u/\x.den ρ j=ZA u
 |[],vs,h=>by cases h;exact⟨rfl,fun i x hx=>by simp at hx⟩
 |c::l,vs,h=>by
   simp only[fg]at h;cases hc:Eu j c with
   |none=>rw[hc]at h;cases h
   |some v=>
     cases hl:fg j l with
     |none=>rw[hc,hl]at h;cases h
     |some us=>
       rw[hc,hl]at h;cases h;obtain⟨h1,h2⟩:=nh hl;refine⟨by simp[h1],fun i x hx=> ?_⟩;cases i with
       |zero=>
         simp only[YR,cH,aU]at hx;subst hx;refine⟨v,rfl,?_⟩
         match c,hc with
         |none,hc=>exact hc
         |some (ZB,b,o),hc=>exact hc
         |some (ZC,b,o),hc=>exact hc
       |succ i=>exact h2 i x Xx
def pz{xs ys:List V}{us:List Value}(h1:us.length=xs.length)(h2:∀(i:Nat) x,xs[i]? =ZA x->∃u,us[i]? =ZA u/\x.den ρ j=ZA u)(h3:∀(i:Nat) x,ys[i]? =ZA x->∃u,vs[i]? =ZA u/\x.den ρ j=ZA u):
  ∀(i:Nat) x,(xs++ys)[i]? =ZA x->∃u,(us++vs)[i]? =ZA u/\x.den ρ j=ZA u:=by
 intro i x hx;rcases bn i xs.length with Ap|Dp
 .rw[AW Ap]at hx;rw[AW Fn];exact h2 i x hx
 .rw[Bc Dp]at hx;rw[Bc Fn,h1];exact h3 _ x hx
def aiA(CQ:IQ P sp G cx ry cl X W0){g:Nat}{kw:Kw}{k:St->Kw->Tr}(I0:g<yB)(h:(Kj cl o g args s kw k).holds sp G ρ I)(hg:Good sp cx.sm ρ kw)(hr:At cx ρ n X W0 s j a w)
  (hl:vals.length=args.length) (hd:∀(i:Nat) x,args[i]? =ZA x->∃u,vals[i]? =ZA u/\x.den ρ j=ZA u) {K:Act->World->Prop}
  (hK:∀s' Ak ρ' I' j' a' w',(k s' Ak).holds sp G ρ' I'->Good sp cx.sm ρ' Ak->Nx kw Ak ρ ρ' I I'->At cx ρ' n X W0 s' j' a' w'->K a' w'):
  (callFunc g vals.toArray).run P w=.ok (.enter g vals.toArray) w/\Calls P g vals.toArray w fun e w'=>∃u,e=.returned u/\K (a.put o.dst u) w':=by
 refine CQ.1.call g args s kw _ (fun u w'=>K (a.put o.dst u) w') ρ I n X W0 j a w vals I0 h hg hr (CQ.2.more _) hl hd (fun v s' Ak ρ' I' j' w' u h' CC ha hI GZ Qy hv AM=> ?_);have LQ:Nx kw Ak ρ ρ' I I':=⟨ha,hI,GZ,Qy⟩
 split at h'
 next Gw=>rw[Gw];exact hK s' Ak ρ' I' j' _ w' h' CC LQ AM
 .rename_i d Gw;split at h'
  .rename_i Ap;have J6:d<s'.n:=by simpa[Nat.blt_eq]using Ap
   refine hK _ Ak ρ' I' j' _ w' h' CC LQ ⟨?_,AM.len,AM.own⟩;have h1:=AM.rel.put (dst:=o.dst) hv (fun d' GW=>by rw[Gw]at GW;cases GW;rw[<-AM.own];exact J6);rw[Gw]at h1 ⊢;have e:(St.mk (s'.tmps.set d v) s'.heap).fs=s'.fs.put (ZA d) v:=by
    refine Fz.ext' (fun t=> ?_) (fun _=>rfl) (fun _=>rfl) (fun _=>rfl);simp only[Fz.put,St.fs,Aw,TM.get_set s'.tmps v J6];by_cases ht:d=t
    .subst ht;simp
    .simp[ht]
   rw[e];exact h1
  .exact h'.elim
def arB(CQ:IQ P sp G cx ry cl X W0){id l:Nat}{kw:Kw}{k:St->Kw->Tr}(h:(Kj cl o (yB+id) args s kw k).holds sp G ρ I)(hg:Good sp cx.sm ρ kw)(hr:At cx ρ n X W0 s j a w)
  (hl:vals.length=args.length) (LW:j.g.y id=ZA l) (hd:∀(i:Nat) x,args[i]? =ZA x->∃u,vals[i]? =ZA u/\x.den ρ j=ZA u) {K:Act->World->Prop}
  (hK:∀s' Ak ρ' I' j' a' w',(k s' Ak).holds sp G ρ' I'->Good sp cx.sm ρ' Ak->Nx kw Ak ρ ρ' I I'->At cx ρ' n X W0 s' j' a' w'->K a' w'):
  ∃f tmps assign body,(Instr.yield l vals.toArray).run P w=.ok (.round l f tmps assign body) w/\∀ro,RoundIn (Fw ro) 0 P l f tmps assign body w fun e w'=>∃u,e=.returned u/\K (a.put o.dst u) w':=by
 refine CQ.1.yld id args s kw _ (fun u w'=>K (a.put o.dst u) w') ρ I n X W0 j a w vals l h hg hr CQ.2 LW hl hd (fun v s' Ak ρ' I' j' w' u h' CC ha hI GZ Qy hv AM=> ?_);have LQ:Nx kw Ak ρ ρ' I I':=⟨ha,hI,GZ,Qy⟩
 split at h'
 next Gw=>rw[Gw];exact hK s' Ak ρ' I' j' _ w' h' CC LQ AM
 .rename_i d Gw;split at h'
  .rename_i Ap;have J6:d<s'.n:=by simpa[Nat.blt_eq]using Ap
   refine hK _ Ak ρ' I' j' _ w' h' CC LQ ⟨?_,AM.len,AM.own⟩;have h1:=AM.rel.put (dst:=o.dst) hv (fun d' GW=>by rw[Gw]at GW;cases GW;rw[<-AM.own];exact J6);rw[Gw]at h1 ⊢;have e:(St.mk (s'.tmps.set d v) s'.heap).fs=s'.fs.put (ZA d) v:=by
    refine Fz.ext' (fun t=> ?_) (fun _=>rfl) (fun _=>rfl) (fun _=>rfl);simp only[Fz.put,St.fs,Aw,TM.get_set s'.tmps v J6];by_cases ht:d=t
    .subst ht;simp
    .simp[ht]
   rw[e];exact h1
  .exact h'.elim
def V7:∀(N:Nat) (l:List Nat),l.Nodup->(∀x∈l,x<N)->l.length<=N
 |0,l,_,h=>by
   cases l with
   |nil=>simp
   |cons x l=>exact ak (h x bG) Fn
 |N+1,l,hn,h=>by
   by_cases hm:N∈l
   .have h1:=V7 N (l.erase N) (hn.erase N) (fun x hx=>by
     have h2:=(hn.mem_erase_iff).1 hx;have:=h x h2.2;have:=h2.1;omega)
    rw[List.length_erase_of_mem hm]at h1;omega
   .have h1:=V7 N l hn (fun x hx=>by
     have:=h x hx;have:x≠N:=fun e=>hm (e▸hx);omega)
    omega
def aoi:∀(N:Nat) (l:List Nat),(∀x,x<N->x∈l)->N<=l.length
 |0,_,_=>by simp
 |N+1,l,h=>by have hm:=h N Fn;have h1:=aoi N (l.erase N) (fun x hx=>(List.mem_erase_of_ne Fn).2 (h x Fn));rw[List.length_erase_of_mem hm]at h1;have:=List.length_pos_of_mem hm;omega
def adW{L:LL}(h1:RowsIn [ZA .i64] L)(h2:L.Nodup)(h3:∀x∈L,0<=x.getD 0 0):(Ck L).Nodup:=by
 unfold Ck;rw[List.nodup_iff_pairwise_ne,List.pairwise_map];refine(List.nodup_iff_pairwise_ne.1 h2).imp_of_mem fun {a b} ha hb Bg e=>Bg ?_;have one:∀x∈L,x=[x.getD 0 0]:=fun x hx=>by
  have:=cn (h1.row x hx)
  match x,this with
  |[y],_=>rfl
 have:=h3 a ha;have:=h3 b hb;rw[one a ha,one b hb];congr 1;omega
def acF{ρ ρ':Env}(h:Ag v0 ρ ρ'):Giv v0 [] [] ρ ρ':=⟨h,fun m k t hk=>by simp at hk,fun m t hk=>by simp at hk,fun m ks t hk=>by simp at hk⟩
def ach{es:List MapEntry}{seen:List Nat}{e:MapEntry}:e∈(leftOf es.toArray seen.toArray).toList↔e∈es/\e.born ∉ seen:=by unfold leftOf;simp
def am0{kw:Kw}{id:Nat}{q:RowOb}(h:HJ s.heap id=ZA q):((oT s kw).J j).s id=j.s id:=by
 have h1:s.heap[id]? =ZA (.row q):=by
  unfold HJ at h;split at h
  next r hr=>cases h;exact hr
  .exact ST
 have h2:(oT s kw).sig id=ZA (ZA id):=by have h3:=(bX.1 h1).1;unfold Mt.sig oT;simp only[h1];rw[ae h3]
 simp only[Mt.J,h2]
def ahK{ρ:Env}(b:Bool)(cs:List C)(vals:List Value)(hd:Ad ρ j cs=ZA vals)(hl:b=ZC->cs.length=1):Bt ρ j (b,cs)=ZA (dt b vals):=by
 cases b with
 |true=>simp[Bt,hd,dt]
 |false=>
   have:=hl rfl
   match cs,this with
   |[c],_=>
     simp only[Ad]at hd;cases hc:c.den ρ j with
     |none=>rw[hc]at hd;cases hd
     |some v=>rw[hc]at hd;cases hd;simp[Bt,hc,dt]
def asi{id mid:Nat}{kw:Kw}{k:St->Kw->Tr}(Ab:o.op=.next x ZC)(hx:(V.one (.itp id mid)).den ρ j=ZA (a.eval x))(h:(MC cx o id mid s kw k).holds sp G ρ I)(hg:Good sp cx.sm ρ kw)(hr:At cx ρ n X W0 s j a w){K:Act->World->Prop}{Q:Exit->Act->World->Prop}(hK:∀s' Ak ρ' I' j' a' w',(k s' Ak).holds sp G ρ' I'->Good sp cx.sm ρ' Ak->Nx kw Ak ρ ρ' I I'->At cx ρ' n X W0 s' j' a' w'->K a' w'):o.wp P a w K Q:=by
 unfold MC at h;split at h
 .rename_i q r hq A3;split at h
  .rename_i Ik n' nk ka va Gi hrk;split at h
   .rename_i hc;simp only[ne,eu,ax]at hc;obtain⟨⟨hn,hnk,Te,hva⟩,Ai⟩:=hc
    have look:∀(ρ1:Env) (j1:J),At cx ρ1 n X W0 s j1 a w->(V.one (.itp id mid)).den ρ1 j1=ZA (a.eval x)->∃s0 gi g,j1.s id=ZA s0/\s0.a=ZA ⟨gi,0,ZD⟩/\s0.c=1/\W0.heap.size<=gi/\a.eval x=.pointer (ZA ⟨gi,0,ZD⟩)/\
      w.heap[gi]? =ZA (.mapIter (ZA g) (r.l.R ρ1).length (Ck (q.l.R ρ1)).toArray (r.l.R ρ1).length)/\w.heap[g]? =ZA (.map (cu r.ks nk ka va 0 (r.l.R ρ1)).toArray (r.l.R ρ1).length)/\s0.n=g/\n'.I ρ1=((r.l.R ρ1).length:Int)/\RowsIn r.ks (r.l.R ρ1)/\q.own=ZB/\q.ks=[ZA .i64]/\RowsIn [ZA .i64] (q.l.R ρ1)/\(q.l.R ρ1).Nodup/\∀y∈q.l.R ρ1,0<=y.getD 0 0/\y.getD 0 0<n'.I ρ1:=by
     intro ρ1 j1 ED hx1;obtain⟨s0,m0,Lb,hm0,Qs,hv⟩:=xP (ρ:=ρ1) hx1;have q1:s.fs.row id=ZA (ZA q):=fC (by rw[iS];exact hq);have r1:s.fs.row mid=ZA (ZA r):=fC (by rw[iS];exact A3);obtain⟨s1,h1,h2⟩:=ED.rel.row id q q1;rw[Lb]at h1;cases h1;obtain⟨s2,h3,h4⟩:=ED.rel.row mid r r1;rw[hm0]at h3;cases h3;obtain⟨g,m1,m2,m3,m4,m5,m6⟩:=h4.map hrk;have hd:=h2.2.1 (by rw[Gi];rfl);obtain⟨gi,ob,i1,i2,i3,i4⟩:=hd.at';unfold FZ at i4;rw[Gi]at i4;obtain⟨Bx,rfl,EA,CD⟩:=i4;rw[Qs]at m1;cases m1;have e0:n'.I ρ1=((r.l.R ρ1).length:Int):=by rw[E.same_eq hn,bO]
     have e1:(n'.I ρ1).toNat=(r.l.R ρ1).length:=by rw[e0];simp
     rw[e1]at i3;refine⟨s0,gi,s0.n,Lb,i1,hd.c,i2,?_,i3,m3,rfl,e0,m4,hd.own,Bx,by rw[<-Bx];exact hd.rows,EA,CD⟩;rw[hv,SV.pv,i1];rfl
    obtain⟨s0,gi,g,b1,b2,b3,b4,b5,b6,b7,b8,b9,b10,b11,b12,b13,b14,ON⟩:=look ρ j hr hx;have H8:∀e∈(cu r.ks nk ka va 0 (r.l.R ρ)).toArray.toList,e.born<(r.l.R ρ).length:=by
     intro e he;obtain⟨m,hm⟩:=List.getElem?_of_mem (show e∈cu r.ks nk ka va 0 (r.l.R ρ)from by simpa using he);rw[cY]at hm;cases hL:(r.l.R ρ)[m]? with
     |none=>rw[hL]at hm;cases hm
     |some y=>rw[hL]at hm;simp only[ZK,aU]at hm;rw[<-hm];have:=(bX.1 hL).1;show 0+m<_;omega
    have Nj:=adW b13 b14 (fun y hy=>(ON y hy).1);have Ap:∀y∈Ck (q.l.R ρ),y<(r.l.R ρ).length:=by intro y hy;unfold Ck at hy;obtain⟨z,hz,rfl⟩:=List.mem_map.1 hy;have:=ON z hz;omega
    have AE:(Ck (q.l.R ρ)).length=(q.l.R ρ).length:=by simp[Ck]
    obtain⟨Bn,g1,q1,v1,l1⟩:=aC _ _ _ h hg;rw[cC,bO,b9]at g1;have Qt:=run_next_at (P:=P) w o.type gi g (r.l.R ρ).length (r.l.R ρ).length (Ck (q.l.R ρ)).toArray (cu r.ks nk ka va 0 (r.l.R ρ)).toArray (r.l.R ρ).length b6 b7 H8 (YJ _);have hex:∀v w',(Instr.next (.pointer (ZA ⟨gi,0,ZD⟩)) ZC o.type).run P w=.ok v w'->(execOp a.eval o).run P w=.ok (.value v) w':=by intro v w' hh;simp only[execOp,Ab,b5,ZH,hh,Result.andThen_ok,Sem.run_pure]
    rcases Qt with⟨h0,Be⟩|⟨e,he,w1,Nw,Be⟩
    ·
     have AX:∀y,y<(r.l.R ρ).length->y∈Ck (q.l.R ρ):=by
      intro y hy;refine Classical.byContradiction fun hni=> ?_;have hme:Dl r.ks nk ka va y ((r.l.R ρ)[y])∈cu r.ks nk ka va 0 (r.l.R ρ):=by refine ew (i:=y) ?_;rw[cY,Az hy];simp
      have:=ach.2 ⟨hme,hni⟩;rw[Array.mem_toList_iff]at this;have:=Array.size_pos_of_mem this;omega
     have Dp:=aoi _ _ AX;rw[aa Xz]at g1;split at g1
     next s' Bi=>obtain⟨e1,e2,e3,_,_,_⟩:=St.app_ok hr.le Bi;refine cf (hex _ _ Be) (hK s' Bn ρ I j _ w g1 q1 (.of l1 _ _) ⟨?_,by rw[e2.1];exact hr.len,by rw[e2.2];exact hr.own⟩);rw[e1];exact hr.rel.put (by simp[V.den,ce,Bt,C.den,E.B]) (fun d hd=>by rw[<-hr.own];exact e3 d hd)
     .exact g1.elim
    ·
     have Gx:=ach.1 he;obtain⟨m,hm⟩:=List.getElem?_of_mem Gx.1;rw[cY]at hm;cases hL:(r.l.R ρ)[m]? with
     |none=>rw[hL]at hm;cases hm
     |some y=>
       rw[hL]at hm;simp only[ZK,aU,be]at hm;have hmlt:=(bX.1 hL).1;have La:m ∉ Ck (q.l.R ρ):=by have:=Gx.2;rw[<-hm]at this;exact this
       have hcnt:(q.l.R ρ).length<(r.l.R ρ).length:=by
        have:=V7 (r.l.R ρ).length (m::Ck (q.l.R ρ)) (List.nodup_cons.2 ⟨La,Nj⟩) (fun z hz=>by
         rcases List.mem_cons.1 hz with rfl|hz
         .exact hmlt
         .exact Ap z hz)
        rw[YM,AE]at this;omega
       rw[ae Xz]at g1;have GC:=b10.len;obtain⟨ρ',ha,hz,hh⟩:=g1 (m:Int) (by rw[bl];simp only[IntKind.min,IntKind.max,IntKind.signed,IntKind.bits];simp[maxLen]at GC ⊢;omega);rw[v1]at ha hz;have FT:=hz;have AM:At cx ρ' n X W0 s ((oT s kw).J j) a w:=⟨mM Ai (acF ha) hr.rel,hr.len,hr.own⟩
       have ER:(V.one (.itp id mid)).den ρ' ((oT s kw).J j)=ZA (a.eval x):=by obtain⟨t0,u0,t1,t2,t3,t4⟩:=xP (ρ:=ρ) hx;show(C.itp id mid).den ρ' _=_;simp only[C.den,am0 hq,am0 A3,t1,t2,Option.bind_some,t3,aW,t4]
       obtain⟨s0',gi',g',d1,d2,d3,d4,d5,d6,d7,d8,d9,WS,WT,d12,d13,d14,d15⟩:=look ρ' _ AM ER;rw[b5]at d5;simp only[Value.pointer.injEq,aU,Addr.mk.injEq,and_true]at d5;subst d5;rw[b6]at d6;simp only[aU,Obj.mapIter.injEq]at d6;obtain⟨f1,f2,f3,f4⟩:=d6;subst f1;have W6:Ck (q.l.R ρ)=Ck (q.l.R ρ'):=by simpa using f3
       rw[b7]at d7;simp only[aU,Obj.map.injEq]at d7;have f5:cu r.ks nk ka va 0 (r.l.R ρ)=cu r.ks nk ka va 0 (r.l.R ρ'):=by simpa using d7.1
       obtain⟨y',Kh,hey⟩:∃y',(r.l.R ρ')[m]? =ZA y'/\e=Dl r.ks nk ka va m y':=by
        have h1:(cu r.ks nk ka va 0 (r.l.R ρ))[m]? =ZA e:=by rw[cY,hL];simp[hm]
        rw[f5,cY]at h1;cases Ta:(r.l.R ρ')[m]? with
        |none=>rw[Ta]at h1;cases h1
        |some y'=>rw[Ta]at h1;simp only[ZK,aU,be]at h1;exact⟨y',rfl,h1.symm⟩
       have hmlt':m<(r.l.R ρ').length:=(bX.1 Kh).1;have hni:m ∉ Ck (q.l.R ρ'):=W6▸La;have one:∀z∈q.l.R ρ',z=[z.getD 0 0]:=fun z hz=>by
        have:=cn (d13.row z hz)
        match z,this with
        |[y],_=>rfl
       have Bg:∀z∈q.l.R ρ',z≠[(m:Int)]:=by intro z hz e;apply hni;unfold Ck;refine List.mem_map.2 ⟨z,hz,?_⟩;rw[e];simp
       have hmix:Cc (q.l.R ρ') [(m:Int)]=((q.l.R ρ').length:Int):=by unfold Cc;rw[List.findIdx_eq_length_of_false];intro z hz;rw[jq];intro e;refine Bg z hz ?_;rw[one z hz]at e ⊢;simpa using e
       have hlen2:(q.l.R ρ').length<(r.l.R ρ').length:=by
        have e1:(q.l.R ρ').length=(q.l.R ρ).length:=by have:=congrArg List.length W6;simp only[Ck,List.length_map]at this;exact this.symm
        omega
       have JW:(V6 q.l n' Bn.vk.length).B ρ'=ZB:=by
        have Ju:ρ'.i Bn.vk.length=(m:Int):=by rw[v1];exact hz
        simp only[V6,E.B,E.I,E.L,Ju,d9,hmix,bO];simp;omega
       have Nb:=hh JW;split at Nb
       .rename_i s' Bi;obtain⟨e1,e2,e3,_,_,_⟩:=St.app_ok hr.le Bi;have hX:Ext w w1:=by
         rcases Nw with rfl|rfl
         .exact Ext.refl _
         .exact(Ext.refl _).drew
        have P6:w1.heap=w.heap:=by rcases Nw with rfl|rfl<;>rfl
        have hgi:gi<w1.heap.size:=by rw[P6];exact(fL.1 b6).1
        have JT:e.born=m:=by rw[hey];rfl
        have q1':s.fs.row id=ZA (ZA q):=fC (by rw[iS];exact hq);have GG:=(AM.rel.more hX).set (id:=id) (s:=s0') (r:={q with l:=.lq q.l (.cons (.w Bn.vk.length) .nil)}) (w':=setBlock w1 gi (.mapIter (ZA g) (r.l.R ρ).length ((Ck (q.l.R ρ)).toArray.push e.born) (r.l.R ρ).length)) ⟨⟨q,q1',WT⟩,WT⟩ d1 (by
         have:s0'.v.ownBlock=ZA gi:=by simp[SV.v,d2,Value.ownBlock]
         rw[this];exact kZ w1 gi _) (HdOk.row ⟨WT,⟨fun z hz=> ?_,?_⟩,d3,gi,_,d2,d4,qe hgi _,?_⟩ (by show q.kd.isHd=ZB;rw[Gi];rfl)) (fun e=>by rw[show q.kd=_ from Gi]at e;cases e)
        .have Gz:=ahK (ρ:=ρ') (j:=(oT s kw).J j) ka (eK r.l (.w Bn.vk.length) 0 (r.ks.take nk)) ((Ax r.ks y').take nk) (by
          rw[jQ];simp only[E.I];rw[show ρ'.i Bn.vk.length=(m:Int) by rw[v1];exact hz,cy,bh,Kh];simp only[Option.getD_some];rw[nC nk (WS.row y' (ew Kh))]) (fun e=>by rw[dT,List.length_take];have:=Te.elim (fun h1=>by rw[e]at h1;cases h1) Ah;omega)
         have En:=ahK (ρ:=ρ') (j:=(oT s kw).J j) va (eK r.l (.w Bn.vk.length) nk (r.ks.drop nk)) ((Ax r.ks y').drop nk) (by
          rw[jQ];simp only[E.I];rw[show ρ'.i Bn.vk.length=(m:Int) by rw[v1];exact hz,cy,bh,Kh];simp only[Option.getD_some];rw[lW nk (WS.row y' (ew Kh))]) (fun e=>by rw[dT];exact hva.elim (fun h1=>by rw[e]at h1;cases h1) Ah)
         refine cf (hex _ _ Be) (hK s' _ ρ' I ((oT s kw).J j) _ _ Nb (mV q1 (by rw[v1];exact ha) ⟨?_,trivial⟩) (.trans (.of l1 _ _) ⟨by rw[v1];exact ha,fun _ _=>rfl,by simp[Kw.head],by simp[Kw.head]⟩) ⟨?_,by rw[e2.1];exact hr.len,by rw[e2.2];exact hr.own⟩)
         .show Aj .i64 (ρ'.i Bn.vk.length)=ZB;rw[v1,hz,bl];simp only[IntKind.min,IntKind.max,IntKind.signed,IntKind.bits];simp[maxLen]at GC ⊢;omega
         .rw[e1];refine GG.put ?_ (fun d hd=>by rw[<-hr.own];exact e3 d hd);simp only[V.den,ce,Gz,En,ZK];rw[hey];rfl
        .simp only[E.R,ZS,cV]at hz;show aq q.ks z=ZB;rw[d12];rcases hz with hz|rfl
         .exact d13.row z hz
         .simp only[E.L,aq,Bool.and_true];show Aj .i64 (ρ'.i Bn.vk.length)=ZB;rw[v1,FT,bl];simp only[IntKind.min,IntKind.max,IntKind.signed,IntKind.bits];simp[maxLen]at GC ⊢;omega
        .simp only[E.R,cQ,List.length_singleton];have:=WS.len;omega
        .have hN:(n'.I ρ').toNat=(r.l.R ρ').length:=by rw[d9];simp
         have hR:(E.lq q.l (.cons (.w Bn.vk.length) .nil)).R ρ'=q.l.R ρ'++[[(m:Int)]]:=by simp only[E.R,E.L,E.I];rw[show ρ'.i Bn.vk.length=(m:Int) by rw[v1];exact FT]
         unfold FZ;simp only[Gi];rw[hR];refine⟨d12,?_,?_,fun z hz=> ?_⟩
         .rw[hN,<-f2,d8,JT,W6];simp[Ck]
         .rw[List.nodup_append];refine⟨d14,by simp,fun z hz z' Ju=> ?_⟩;rw[cV.1 Ju];exact Bg z hz
         .rcases ZS.1 hz with hz|hz
          .exact d15 z hz
          .rw[cV.1 hz,d9];simp;omega
       .exact Nb.elim
   .exact h.elim
  .exact h.elim
 .exact h.elim
def sN{y:Operand}(h:qQ y=ZB)(a:Act):a.eval y=.slice ZD 0 0:=by
 unfold qQ at h;split at h
 .rfl
 .exact ST
def aqQ(hT:∀t i,(t,i)∈cx.ty->TIok P t i){xt yt:Nat}{y:Operand}{id:Nat}{kw:Kw}{k:St->Kw->Tr}(Ab:o.op=.binOp .eql xt x y yt)(hy:qQ y=ZB)(Ao:Ha s.n s.tmps x=ZA (.one (.sl id)))(h:(NU cx o xt id s kw k).holds sp G ρ I)(hg:Good sp cx.sm ρ kw)(hr:At cx ρ n X W0 s j a w){K:Act->World->Prop}{Q:Exit->Act->World->Prop}(hK:∀s' Ak ρ' I' j' a' w',(k s' Ak).holds sp G ρ' I'->Good sp cx.sm ρ' Ak->Nx kw Ak ρ ρ' I I'->At cx ρ' n X W0 s' j' a' w'->K a' w'):o.wp P a w K Q:=by
 unfold NU at h;split at h
 .rename_i r i hq hi;split at h
  .rename_i hc;simp only[ne]at hc;obtain⟨Dq,E0,Ai⟩:=hc;obtain⟨et,J1⟩:=Option.isSome_iff_exists.1 E0;have hu:=(hT _ _ (af hi)).sle et J1;have hx:=hr.ev Ao;obtain⟨sv,hs,hv⟩:∃sv:SV,j.s id=ZA sv/\a.eval x=sv.v:=by
    simp only[V.den,C.den,Av]at hx;obtain⟨sv,h1,h2⟩:=hx;exact⟨sv,h1,h2.symm⟩
   obtain⟨ρ',ha,hz,hh⟩:=h (if sv.a.isNone then 0 else 1) (by split<;>decide);have AM:At cx ρ' n X W0 s ((oT s kw).J j) a w:=⟨mM Ai (acF ha) hr.rel,hr.len,hr.own⟩
   have JW:(NT r.l kw.vk.length).B ρ'=ZB:=by
    have ER:=AM.ev Ao;simp only[V.den,C.den,Av]at ER;obtain⟨sv',h1,h2⟩:=ER;obtain⟨sv2,h3,h4⟩:=AM.rel.row id r (fC (by rw[iS];exact hq));rw[h1]at h3;cases h3;have hkd':r.kd=.sl:=by
     cases hd:r.kd with
     |sl=>rfl
     |_=>rw[hd]at Dq;cases Dq
    have h5:=h4.1 hkd';have h6:=h5.n;have h7:=h5.rd.2.2.2.1;rw[hv]at h2;obtain⟨sa,sn,sc,sz⟩:=sv;obtain⟨ta,tn,tc,tz⟩:=sv';simp only[SV.v,Value.slice.injEq]at h2;obtain⟨rfl,rfl,rfl⟩:=h2;simp only[NT,E.B,E.I,hz,bO,<-h6];cases ta with
    |none=>have h8:=(h7 rfl).1;simp only at h8;subst h8;simp
    |some q=>simp
   have Nb:=hh JW;split at Nb
   .rename_i s' Bi;obtain⟨e1,e2,e3,_,_,_⟩:=St.app_ok hr.le Bi;have Be:(execOp a.eval o).run P w=.ok (.value (.bool sv.a.isNone)) w:=by
     obtain⟨sa,sn,sc,sz⟩:=sv;have h1:=Go.Lib.run_eql_slice_nil (P:=P) w xt et sa sn sc 0 0 hu;simp only[execOp,Ab,hv,sN hy,SV.v,eqGuard,ZH];exact congrArg (fun r=>Result.andThen r fun a w'=>Result.ok (Next.value a) w') h1
    refine cf Be (hK s' _ ρ' I ((oT s kw).J j) _ _ Nb (mV hg ha ⟨?_,trivial⟩) ⟨ha,fun _ _=>rfl,by simp[Kw.head],by simp[Kw.head]⟩ ⟨?_,by rw[e2.1];exact hr.len,by rw[e2.2];exact hr.own⟩)
    .show Aj .i64 (ρ'.i kw.vk.length)=ZB;rw[hz];split<;>decide
    .rw[e1];refine AM.rel.put ?_ (fun d hd=>by rw[<-hr.own];exact e3 d hd);simp only[V.den,C.den,E.B,E.I,hz];cases sv.a<;>rfl
   .exact Nb.elim
  .exact h.elim
 .exact h.elim
def an2(hT:∀t i,(t,i)∈cx.ty->TIok P t i)(CQ:IQ P sp G cx ry cl X W0){kw:Kw}{k:St->Kw->Tr}(h:(S9 cl cx o s kw k).holds sp G ρ I)(hg:Good sp cx.sm ρ kw)(hr:At cx ρ n X W0 s j a w){K:Act->World->Prop}{Q:Exit->Act->World->Prop}(hK:∀s' Ak ρ' I' j' a' w',(k s' Ak).holds sp G ρ' I'->Good sp cx.sm ρ' Ak->Nx kw Ak ρ ρ' I I'->At cx ρ' n X W0 s' j' a' w'->K a' w'):o.wpIn (Fw ro) 0 P a w K Q:=by
 unfold S9 at h;split at h
 .rename_i xt x y yt Ab;split at h
  .rename_i hy;split at h
   next id hx=>exact io (by simp[Ab]) (aqQ hT Ab hy hx h hg hr hK)
   .rename_i hx;split at h
    .rename_i i hi;split at h
     .rename_i E0;split at h
      .rename_i s' Bi;obtain⟨et,J1⟩:=Option.isSome_iff_exists.1 E0;have hu:=(hT _ _ (af hi)).sle et J1;obtain⟨e1,e2,e3,_,_,_⟩:=St.app_ok hr.le Bi;have hv:a.eval x=.slice ZD 0 0:=(YL (hr.ev hx)).symm;have Be:(execOp a.eval o).run P w=.ok (.value (.bool ZB)) w:=by
        have h1:=Go.Lib.run_eql_slice_nil (P:=P) w xt et ZD 0 0 0 0 hu;simp only[execOp,Ab,hv,sN hy,eqGuard,ZH];exact congrArg (fun r=>Result.andThen r fun a w'=>Result.ok (Next.value a) w') h1
       refine io (by simp[Ab]) (cf Be (hK s' kw ρ I j _ w h hg (.of (.refl _) _ _) ⟨?_,by rw[e2.1];exact hr.len,by rw[e2.2];exact hr.own⟩));rw[e1];exact hr.rel.put rfl (fun d hd=>by rw[<-hr.own];exact e3 d hd)
      .exact h.elim
     .exact h.elim
    .exact h.elim
   .exact h.elim
  .exact h.elim
 .rename_i c Ab;split at h
  .rename_i f hc;have run:∀(g:Nat) (vals:List Value),(execOp a.eval o).run P w=(callFunc g vals.toArray).run P w->((callFunc g vals.toArray).run P w=.ok (.enter g vals.toArray) w/\Calls P g vals.toArray w fun e w'=>∃u,e=.returned u/\K (a.put o.dst u) w')->o.wpIn (Fw ro) 0 P a w K Q:=by
    intro g vals h6 ⟨h7,h8⟩;refine io (by simp[Ab]) ?_;unfold Oper.wp;rw[h6,h7];show Calls P g _ w _;refine h8.mono ?_;rintro e' w' ⟨u,rfl,hk⟩;exact hk
   split at h
   .rename_i g args hf hl;split at h<;>first|exact h.elim|skip
    rename_i I0;have I0:g<yB:=by simpa[Nat.blt_eq]using I0
    obtain⟨h1,h2⟩:=iF (ρ:=ρ) (j:=j) (a:=a) hl (fun x _ v hv=>hr.ev hv);have h4:=hr.ev hf;have h5:a.eval f=.func (.func g) #[] #[]:=(YL h4).symm;refine run g (c.args.toList.map a.eval) ?_ (aiA CQ I0 h hg hr XJ (fun i x hx=> ?_) hK)
    .have h7:c.args.map a.eval=(c.args.toList.map a.eval).toArray:=by rw[<-fR]
     rw[<-h7];simp only[execOp,Ab,resolve,hc,h5,Deferred.ofValue,ZH,Sem.run_pure,Result.andThen_ok,invoke,Array.empty_append,Array.append_empty]
    .have Ap:i<(c.args.toList.map a.eval).length:=by
      have:=(bX.1 hx).1;rw[h2];exact this
     exact⟨_,Az Ap,h1 i x _ hx (Az Ap)⟩
   .rename_i g fs ps args hf hl;split at h<;>first|exact h.elim|skip
    rename_i I0;have I0:g<yB:=by simpa[Nat.blt_eq]using I0
    obtain⟨h1,h2⟩:=iF (ρ:=ρ) (j:=j) (a:=a) hl (fun x _ v hv=>hr.ev hv);obtain⟨x,y,hx,hy,h5⟩:=gD (show Fh g (fg j fs) (fg j ps)=ZA (a.eval f)from hr.ev hf);obtain⟨e1,e2⟩:=nh (ρ:=ρ) hx;obtain⟨e3,e4⟩:=nh (ρ:=ρ) hy;have e5:∀(i:Nat) z,args[i]? =ZA z->∃u,(c.args.toList.map a.eval)[i]? =ZA u/\z.den ρ j=ZA u:=fun i z hz=>by
     have Ap:i<(c.args.toList.map a.eval).length:=by have:=(bX.1 hz).1;rw[h2];exact this
     exact⟨_,Az Ap,h1 i z _ hz (Az Ap)⟩
    refine run g (x++c.args.toList.map a.eval++y) ?_ (aiA CQ I0 h hg hr (by simp only[cQ,e1,e3,h2]) (pz (by simp only[cQ,e1,h2]) (pz e1 e2 e5) e4) hK);have h7:c.args.map a.eval=(c.args.toList.map a.eval).toArray:=by rw[<-fR]
    have h8:(x++c.args.toList.map a.eval++y).toArray=x.toArray++c.args.map a.eval++y.toArray:=by rw[h7];simp
    rw[h8];simp only[execOp,Ab,resolve,hc,h5,Deferred.ofValue,ZH,Sem.run_pure,Result.andThen_ok,invoke]
   .rename_i id args hf hl;obtain⟨h1,h2⟩:=iF (ρ:=ρ) (j:=j) (a:=a) hl (fun x _ v hv=>hr.ev hv);have h4:(j.g.y id).map (fun l=>Value.func (.yield l) #[] #[])=ZA (a.eval f):=hr.ev hf;rw[Av]at h4;obtain⟨l,LW,h5⟩:=h4;obtain⟨f',Rb,KT,PC,h6,h7⟩:=arB CQ h hg hr (vals:=c.args.toList.map a.eval) XJ LW (fun i x hx=>by
     have Ap:i<(c.args.toList.map a.eval).length:=by have:=(bX.1 hx).1;rw[h2];exact this
     exact⟨_,Az Ap,h1 i x _ hx (Az Ap)⟩) hK
    have h8:c.args.map a.eval=(c.args.toList.map a.eval).toArray:=by rw[<-fR]
    refine⟨fun _ _=>trivial,?_⟩;rw[Oper.semAt_eq _ _ _ (by simp[Ab])];have h9:(execOp a.eval o).run P w=.ok (.round l f' Rb KT PC) w:=by rw[<-h6,<-h8];simp only[execOp,Ab,resolve,hc,<-h5,Deferred.ofValue,ZH,Sem.run_pure,Result.andThen_ok,invoke,Array.empty_append,Array.append_empty]
    rw[h9];refine⟨RT,(h7 ro).mono ?_⟩;rintro e' w' ⟨u,rfl,hk⟩;exact hk
   .exact h.elim
  .exact h.elim
 .rename_i x Ab;split at h
  next id mid hx=>exact io (by simp[Ab]) (asi Ab (hr.ev hx) h hg hr hK)
  .exact h.elim
 .exact h.elim
def anv{rs:List Rec}(h:rs.map (·.o)=[o]):∃r,rs=[r]:=by
 cases rs with
 |nil=>cases h
 |cons r l=>cases l with
   |nil=>exact⟨r,rfl⟩
   |cons=>simp at h
def abb(ho:ops[i]? =ZA o){kw:Kw}{k:St->Kw->Tr}(h:(Sx o s kw k).holds sp G ρ I)(hg:Good sp cx.sm ρ kw)(hr:At cx ρ n X W0 s j a w)(hw:Region.wanted o (yielded ops a.tmps)=ZC){K:Act->World->Prop}{Q:Exit->Act->World->Prop}(hK:∀s' Ak ρ' I' j' a' w',(k s' Ak).holds sp G ρ' I'->Good sp cx.sm ρ' Ak->Nx kw Ak ρ ρ' I I'->At cx ρ' n X W0 s' j' a' w'->K a' w'):wpOpIn (Fw ro) 0 P ops Q i K a w:=by
 unfold Sx at h;split at h
 next s' Bi=>obtain⟨e1,e2,e3,_,_,_⟩:=St.app_ok hr.le Bi;unfold wpOpIn;simp only[ho,hw];refine⟨fun _ _=>trivial,hK s' kw ρ I j _ w h hg (.refl _ _ _) ⟨?_,by rw[e2.1];exact hr.len,by rw[e2.2];exact hr.own⟩⟩;rw[e1];exact hr.rel.put rfl (fun d hd=>by rw[<-hr.own];exact e3 d hd)
 .exact h.elim
def ajE(hT:∀t i,(t,i)∈cx.ty->TIok P t i)(hS:∀s∈cx.sm,SmOk P sp s)(AO:∀s∈cx.sm,∀s'∈cx.sm,s.key=s'.key->s=s')(CQ:IQ P sp G cx ry cl X W0)(ho:ops[i]? =ZA o){kw:Kw}{k:St->Kw->Tr}(h:(KU cl cx ops o s kw k).holds sp G ρ I)(hg:Good sp cx.sm ρ kw)(hr:At cx ρ n X W0 s j a w){K:Act->World->Prop}{Q:Exit->Act->World->Prop}(hK:∀s' Ak ρ' I' j' a' w',(k s' Ak).holds sp G ρ' I'->Good sp cx.sm ρ' Ak->Nx kw Ak ρ ρ' I I'->At cx ρ' n X W0 s' j' a' w'->K a' w'):wpOpIn (Fw ro) 0 P ops Q i K a w:=by
 unfold KU at h;split at h
 .obtain⟨rs,s',Ak,h1,g1,l1,h2,h3,h4,h5⟩:=nX (P:=P) (base:=W0.heap.size) hT hS AO CQ.2.1.symm [o] s kw _ h hg hr.le;obtain⟨r,rfl⟩:=anv h2;have e2:r.o=o:=XJ;have h6:=h5 0 r rfl;rw[hr.own]at h6;subst e2;refine mC hr.rel h6 ho (fun j' a' w' h'=>hK s' Ak ρ I j' a' w' h1 g1 (.of l1 _ _) ⟨?_,by rw[h4.1];exact hr.len,by rw[h4.2];exact hr.own⟩);rw[h3];exact h'
 .split at h
  next HE=>unfold wpOpIn;simp only[ho,Region.wanted,HE,aW];exact an2 hT CQ h hg hr hK
  .rename_i g b HE;have Hy:∀v,((ops[g]?).bind (·.dst)).bind (fun t=>if Nat.blt t s.n then s.tmps.get? t else ZD)=ZA v->∃t,(ops[g]?).bind (·.dst)=ZA t/\t<n/\s.fs.tmp t=v:=by
    intro v h;rw[cW]at h;obtain⟨t,h1,h2⟩:=h;split at h2
    next ht=>refine⟨t,h1,?_,by simp[St.fs,Aw,h2]⟩;rw[<-hr.own];simpa[Nat.blt_eq]using ht
    .exact XO
   split at h
   .rename_i e he;obtain⟨t,h1,h2,h3⟩:=Hy _ he;obtain⟨h4,-⟩:=nv hr.rel h1 h2;have h5:=h4 e h3;obtain⟨Bn,h6,g6,v6,l6⟩:=aC _ _ _ h hg;have LQ:Nx kw Bn ρ ρ I I:=.of l6 _ _;have hw:Region.wanted o (yielded ops a.tmps)=(e.B ρ==b):=by
     simp only[Region.wanted,HE,h5];cases e.B ρ<;>cases b<;>rfl
    split at h6
    next hb=>unfold wpOpIn;simp only[ho,hw,hb,aW];exact(an2 hT CQ h6 g6 hr (fun s' Ak ρ' I' j' a' w' q1 q2 q3 q4=>hK s' Ak ρ' I' j' a' w' q1 q2 (LQ.trans q3) q4))
    next hb=>exact abb ho h6 g6 hr (by rw[hw];simpa using hb) (fun s' Ak ρ' I' j' a' w' q1 q2 q3 q4=>hK s' Ak ρ' I' j' a' w' q1 q2 (LQ.trans q3) q4)
   next he=>obtain⟨t,h1,h2,h3⟩:=Hy _ he;obtain⟨-,h4⟩:=nv hr.rel h1 h2;refine abb ho h hg hr ?_ hK;simp only[Region.wanted,HE,h4 h3];rfl
   .exact h.elim
def ahr(hT:∀t i,(t,i)∈cx.ty->TIok P t i)(hS:∀s∈cx.sm,SmOk P sp s)(AO:∀s∈cx.sm,∀s'∈cx.sm,s.key=s'.key->s=s')(CQ:IQ P sp G cx ry cl X W0){Q:Exit->Act->World->Prop}:
  ∀(l:List Oper) (i:Nat),(∀(m:Nat) o,l[m]? =ZA o->ops[i+m]? =ZA o)->∀(s:St) (kw:Kw) (k:St->Kw->Tr) (ρ:Env) (I:Nat->List Dt->Prop) (j:J) (a:Act) (w:World),(Ji cl cx ops l s kw k).holds sp G ρ I->Good sp cx.sm ρ kw->At cx ρ n X W0 s j a w->
   (∀s' Ak ρ' I' j' a' w',(k s' Ak).holds sp G ρ' I'->Good sp cx.sm ρ' Ak->Nx kw Ak ρ ρ' I I'->At cx ρ' n X W0 s' j' a' w'->Q .normal a' w')->wpOpsIn (Fw ro) 0 P ops Q (List.range' i l.length) a w
 |[],i,hi,s,kw,k,ρ,I,j,a,w,h,hg,hr,hK=>by simp only[List.length_nil,List.range'_zero,wpOpsIn];exact hK s kw ρ I j a w h hg (.refl _ _ _) hr
 |o::l,i,hi,s,kw,k,ρ,I,j,a,w,h,hg,hr,hK=>by
   simp only[YM,List.range'_succ];rw[wpOpsIn_cons];have ho:ops[i]? =ZA o:=hi 0 o rfl;have tail:∀s' Ak ρ' I' j' a' w',(Ji cl cx ops l s' Ak k).holds sp G ρ' I'->Good sp cx.sm ρ' Ak->Nx kw Ak ρ ρ' I I'->At cx ρ' n X W0 s' j' a' w'->wpOpsIn (Fw ro) 0 P ops Q (List.range' (i+1) l.length) a' w':=
    fun s' Ak ρ' I' j' a' w' q1 q2 q3 q4=>ahr hT hS AO CQ l (i+1) (fun m o hm=>by rw[ZU,Nat.add_comm 1 m];exact hi (m+1) o XN) s' Ak k ρ' I' j' a' w' q1 q2 q4
     (fun s2 Dd ρ2 I2 j2 a2 w2 p1 p2 p3 p4=>hK s2 Dd ρ2 I2 j2 a2 w2 p1 p2 (q3.trans p3) p4)
   simp only[Ji]at h;split at h
   .exact ajE hT hS AO CQ ho h hg hr tail
   .obtain⟨rs,s',Ak,h1,g1,l1,h2,h3,h4,h5⟩:=nX (P:=P) (base:=W0.heap.size) hT hS AO CQ.2.1.symm [o] s kw _ h hg hr.le;obtain⟨r,rfl⟩:=anv h2;have e2:r.o=o:=XJ;have h6:=h5 0 r rfl;rw[hr.own]at h6;subst e2;refine mC hr.rel h6 ho (fun j' a' w' h'=>tail s' Ak ρ I j' a' w' h1 g1 (.of l1 _ _) ⟨?_,by rw[h4.1];exact hr.len,by rw[h4.2];exact hr.own⟩);rw[h3];exact h'
end
section
variable {P:Program}{sp:Spec}{ρ:Env}{G:Env->E->Prop}{I:Nat->List Dt->Prop}{cx:Cx}{cl:HK}{n:Nat}{X:List Value}{W0:Wb}{ro:Option Nat}{ry:Option RfS}{ops:Array Oper}
def py:∀(l:List Oper) (k i:Nat) (p:Nat×Oper),(gB k l)[i]? =ZA p->p.1=k+i/\l[i]? =ZA p.2
 |[],k,i,p,h=>by simp[gB]at h
 |o::l,k,i,p,h=>by
   cases i with
   |zero=>simp only[gB,cH,aU]at h;subst h;exact⟨rfl,rfl⟩
   |succ i=>have:=py l (k+1) i p (by simpa[gB]using h);exact⟨by omega,by simpa using this.2⟩
def ri:∀(l:List Oper) (k:Nat),(gB k l).length=l.length
 |[],_=>rfl
 |_::l,k=>by simp[gB,ri l (k+1)]
def rj:∀(l:List Oper) (k:Nat),(gB k l).map (·.1)=List.range' k l.length
 |[],_=>rfl
 |_::l,k=>by simp[gB,rj l (k+1),List.range'_succ]
def alz(h:ops[k]? =ZA o):(k,o)∈gB 0 ops.toList:=by
 have hk:k<ops.toList.length:=by have:=(fL.1 h).1;simpa using this
 have hl:k<(gB 0 ops.toList).length:=by rw[ri];exact hk
 have h1:=Az hl;obtain⟨e1,e2⟩:=py _ _ _ _ h1;have e3:ops.toList[k]? =ZA o:=by rw[lr];exact h
 rw[e3]at e2;have:(gB 0 ops.toList)[k]=(k,o):=Prod.ext Fn (YL e2).symm;rw[<-this];exact List.getElem_mem hl
def ai6{p:Nat×Oper}(h:p∈gB 0 ops.toList):ops[p.1]? =ZA p.2:=by obtain⟨i,hi⟩:=List.getElem?_of_mem h;obtain⟨h1,h2⟩:=py _ 0 i p hi;rw[h1,be,<-lr];exact h2
def xV{l:List (Nat×Oper)}{p:Nat×Oper}(h:na cx l=ZA p):p∈l:=by
 induction l with
 |nil=>cases h
 |cons q l ih=>
   rw[na]at h;by_cases hb:Wg cx q.2=ZB
   .rw[ae hb]at h;rw[<-YL h];exact bG
   .rw[aa hb]at h;exact cm _ (ih h)
def xE:∀(l:List Oper) (ms:List Nat),(l.foldl (fun ms o=>ms++[jh o ms]) ms).length=ms.length+l.length
 |[],ms=>rfl
 |o::l,ms=>by simp only[YT,xE l,cQ,YM,List.length_nil];omega
def aci:∀(l:List Oper) (ms:List Nat) (i:Nat),(i<ms.length->(l.foldl (fun ms o=>ms++[jh o ms]) ms)[i]? =ms[i]?)/\
  ∀o,l[i]? =ZA o->∃pre,pre.length=ms.length+i/\(∀k,k<pre.length->(l.foldl (fun ms o=>ms++[jh o ms]) ms)[k]? =pre[k]?)/\(l.foldl (fun ms o=>ms++[jh o ms]) ms)[ms.length+i]? =ZA (jh o pre)
 |[],ms,i=>⟨fun _=>rfl,fun o h=>by simp at h⟩
 |o::l,ms,i=>by
   simp only[YT];have ih:=aci l (ms++[jh o ms]);refine⟨fun h=>by rw[(ih i).1 Xz,AW h],fun o' h=> ?_⟩;cases i with
   |zero=>simp only[cH,aU]at h;subst h;refine⟨ms,rfl,fun k hk=>by rw[(ih k).1 Xz,AW hk],?_⟩;rw[ZP,(ih ms.length).1 (by simp),Bc (YJ _)];simp
   |succ i=>obtain⟨pre,h1,h2,h3⟩:=(ih i).2 o' Xw;simp only[cQ,YM,List.length_nil]at h1 h3;exact⟨pre,by omega,h2,by rw[show ms.length+(i+1)=ms.length+(0+1)+i by omega];exact h3⟩
def jV:∀(i k:Nat),nq (gq ops) i k=ZB->UJ ops k i:=by
 intro i
 induction i using Nat.strongRecOn with
 |_ i ih=>
   intro k hk A2 hc hd;unfold nq at hk;cases ho:ops.toList[i]? with
   |none=>have Dp:=List.getElem?_eq_none_iff.1 ho;rw[bh,bN (by unfold gq;rw[xE];simp at Dp ⊢;omega)]at hk;simp at hk
   |some o=>
     obtain⟨pre,h1,h2,h3⟩:=(aci ops.toList [] i).2 o ho;simp only[List.length_nil,be]at h1 h3;rw[bh,show(gq ops)[i]? =ZA (jh o pre)from h3]at hk;have Tg:ops[i]? =ZA o:=by rw[<-lr];exact ho
     rcases uW _ 0 hk with h4|⟨e,h4,h5,h6⟩
     .simp at h4
     .have PQ:e∈o.after:=by simpa using h4
      have hs:=hd o Tg e PQ h5;rcases h6 with rfl|h6
      .exact hs
      .have Ap:e.on<pre.length:=by
        rcases bn e.on pre.length with h7|h7
        .exact h7
        .rw[bh,bN h7]at h6;simp at h6
       have h7:nq (gq ops) e.on k=ZB:=by unfold nq;rw[bh,show(gq ops)[e.on]? =pre[e.on]? from h2 e.on Ap,<-bh];exact h6
       exact ih e.on Fn k h7 A2 hc (fun o' GE e' Gx D8=>hc e.on o' GE hs e' Gx D8)
def al9(hT:∀t i,(t,i)∈cx.ty->TIok P t i){A2 sel':Nat->Bool}(h:Uu cx ops A2 i o=ZB)(Cu:∀k,k<ops.size->A2 k=ZB->k≠i->sel' k=ZB):Float P ops sel' i o:=by
 simp only[Uu,ne]at h;obtain⟨h1,h2,h3,h4⟩:=h;refine⟨fun a w K hw=> ?_,by simpa using h1,h3,fun k ok hk Bg hs Qj=> ?_⟩
 rotate_left
 .have Hj:k<ops.size:=(fL.1 hk).1;have hm:(k,ok)∈gB 0 ops.toList:=alz hk;have h5:=Co.1 h4 (k,ok) hm;simp only[eu]at h5;rcases h5 with h5|h5|h5|h5
  .exact ak (Ah h5) Bg
  .rw[Cu k Hj h5 Bg]at hs;cases hs
  .obtain⟨e,he,hb⟩:=List.any_eq_true.1 h5;rw[ne]at hb;exact ak (Ah hb.2) (Qj e Yw hb.1)
  .exact h5
 split at h2
 next x Ab=>exact sf (.inl Ab) a
 next x Ab=>exact sf (.inr Ab) a
 .rename_i s x f Ab;split at h2
  next ti Qv=>obtain⟨p,hp⟩:=Option.isSome_iff_exists.1 h2;exact yS Ab (hT _ _ (af Qv)) (off:=p.1) (ft:=p.2) hp hw
  .exact XO
 next t x y Ab=>exact yR Ab hw
 next x Ab=>exact afC Ab hw
 next t x l h' m Ab=>exact yQ Ab hw
 .exact XO
def ahC{ms:List Nat}{p:Nat×Rec}{l:List (Nat×Rec)}(h:RC ops ms p l=ZB)(q:Nat×Rec)(hq:q∈l):nq ms p.1 q.1=ZB\/Indep ops q.2 p.2:=by
 induction l with
 |nil=>cases hq
 |cons x l ih=>
   rw[RC,ne,eu]at h;rcases List.mem_cons.1 hq with e|hq
   .rw[e];exact h.1.imp id acy
   .exact ih h.2 hq
def qf{ms:List Nat}:∀{l pre:List (Nat×Rec)},pg ops ms pre l=ZB->∀(m q:Nat) x r,m<q->pre.length<=q->(pre++l)[m]? =ZA x->(pre++l)[q]? =ZA r->nq ms r.1 x.1=ZB\/Indep ops x.2 r.2
 |[],pre,_,m,q,x,r,hm,hq,hx,hr=>by rw[YO,bN hq]at hr;cases hr
 |p::l,pre,h,m,q,x,r,hm,hq,hx,hr=>by
   simp only[pg,ne]at h;rcases bn pre.length q with h1|h1
   .exact qf h.2 m q x r hm Xz Xx (by simpa using hr)
   .have:q=pre.length:=by omega
    subst this;rw[Bc (YJ _)]at hr;simp only[Nat.sub_self,cH,aU]at hr;subst hr;rw[AW hm]at hx;exact ahC h.1 x (ew hx)
def TU:∀{A:List (Nat×Oper)} {rs:List Rec},rs.map (·.o)=A.map (·.2)->∀(m:Nat) p,((A.map (·.1)).zip rs)[m]? =ZA p->A[m]? =ZA (p.1,p.2.o)/\rs[m]? =ZA p.2
 |[],rs,_,m,p,hp=>by simp at hp
 |a::A,[],h,m,p,hp=>by simp at h
 |a::A,r::rs,h,m,p,hp=>by
   simp only[YR,AY]at h;cases m with
   |zero=>simp only[YR,List.zip_cons_cons,cH,aU]at hp;subst hp;exact⟨by rw[h.1];rfl,rfl⟩
   |succ m=>exact TU h.2 m p (by simpa using hp)
def yp:∀{A:List (Nat×Oper)} {rs:List Rec},rs.map (·.o)=A.map (·.2)->((A.map (·.1)).zip rs).map (·.1)=A.map (·.1)
 |[],rs,_=>by simp
 |a::A,[],h=>by simp at h
 |a::A,r::rs,h=>by simp only[YR,AY]at h;simp[yp h.2]
def tJ:∀{A:List (Nat×Oper)} {rs:List Rec} (F:Fz),rs.map (·.o)=A.map (·.2)->∀m,rR (((A.map (·.1)).zip rs).take m) F=Cb (rs.take m) F
 |[],[],F,_,m=>by simp[rR,Cb]
 |[],r::rs,F,h,m=>by simp at h
 |a::A,[],F,h,m=>by simp at h
 |a::A,r::rs,F,h,m=>by
   simp only[YR,AY]at h;cases m with
   |zero=>rfl
   |succ m=>simp only[YR,List.zip_cons_cons,List.take_succ_cons,rR,Cb,YT];exact tJ (F.rec' r) h.2 m
def asd(h:tB ops=ZB)(ho:ops[i]? =ZA o):∀e∈o.after,ZX .any e=ZB->e.on<i:=by
 intro e he hb;have hm:(i,o)∈gB 0 ops.toList:=by
  have Ap:=(fL.1 ho).1;have:i<(gB 0 ops.toList).length:=by rw[ri];simpa using Ap
  have h1:=Az this;obtain⟨h2,h3⟩:=py _ 0 i _ h1;rw[<-lr]at ho;rw[ho]at h3;have:(gB 0 ops.toList)[i]=(i,o):=Prod.ext (by rw[h2,be]) (YL h3).symm;rw[<-this];exact List.getElem_mem _
 unfold tB at h;rw[ne]at h;have:=Co.1 (Co.1 h.2 _ hm) e Yw;simpa[hb,Nat.blt_eq]using this
def adO(h:tB ops=ZB)(j:Nat)(o:Oper)(c:Call)(ho:ops[j]? =ZA o):o.op≠.defer c:=by unfold tB at h;rw[ne]at h;have:=Co.1 h.1 o (by rw[<-lr]at ho;exact ew ho);intro e;rw[e]at this;cases this
def aqs(hT:∀t i,(t,i)∈cx.ty->TIok P t i)(hS:∀s∈cx.sm,SmOk P sp s)(AO:∀s∈cx.sm,∀s'∈cx.sm,s.key=s'.key->s=s')(CQ:IQ P sp G cx ry cl X W0)(hb:tB ops=ZB){Q:Exit->Act->World->Prop}(hQ:∀c a w,¬Q (.panic c) a w):
  ∀(m:Nat) (C3:List (Nat×Oper)) (s:St) (kw:Kw) (k:St->Kw->Tr) (ρ:Env) (I:Nat->List Dt->Prop) (Aa:Array Bool) (j:J) (a:Act) (w:World),(Lq cl cx ops (gq ops) m C3 s kw k).holds sp G ρ I->Good sp cx.sm ρ kw->At cx ρ n X W0 s j a w->
   (∀p∈C3,ops[p.1]? =ZA p.2)->(C3.map (·.1)).Nodup->Aa.size=ops.size->iI ops (fun i=>Aa.getD i ZC)->(∀i,i<ops.size->(Aa.getD i ZC=ZC↔∃p∈C3,p.1=i))->
   (∀s' Ak ρ' I' j' a' w',(k s' Ak).holds sp G ρ' I'->Good sp cx.sm ρ' Ak->Nx kw Ak ρ ρ' I I'->At cx ρ' n X W0 s' j' a' w'->Q .normal a' w')->∀fuel,MJ ops Aa<=fuel->wpAnyIn (Fw ro) 0 P .any ops Q fuel Aa a w:=by
 intro m
 induction m with
 |zero=>intro C3 s kw k ρ I Aa j a w h;exact h.elim
 |succ m ih=>
   intro C3 s kw k ρ I Aa j a w h hg hr Ab EA BC hc DU hK fuel hf;have part:∀(A:List (Nat×Oper)) (Im:List (Nat×Oper)) (rs:List Rec) (s':St) (Ak:Kw),(∀p∈A,p∈C3)->(A.map (·.1)).Nodup->(∀p∈C3,p∈A\/∃q∈Im,q.1=p.1)->
    KwGe Ak kw->rs.map (·.o)=A.map (·.2)->s'.fs=Cb rs s.fs->(s'.tmps.length=s.tmps.length/\s'.n=s.n)->(∀(m:Nat) r,rs[m]? =ZA r->RecOk P W0.hw ρ s.n W0.heap.size cx.fbs ops r (Cb (rs.take m) s.fs))->Sv cx ops (gq ops) ((A.map (·.1)).zip rs) Im=ZB->
    (∀(AA:Array Bool) j' a' w',AA.size=ops.size->iI ops (fun i=>AA.getD i ZC)->(∀i,AA.getD i ZC=ZB↔(Aa.getD i ZC=ZB\/∃p∈A,p.1=i))->At cx ρ n X W0 s' j' a' w'->∀fuel,MJ ops AA<=fuel->wpAnyIn (Fw ro) 0 P .any ops Q fuel AA a' w')->
    wpAnyIn (Fw ro) 0 P .any ops Q fuel Aa a w:=by
    intro A Im rs s' Ak hA hndA MY hkw h2 h3 h4 h5 Jb K6;simp only[Sv,ne]at Jb;obtain⟨g1,g2,g3⟩:=Jb;have Lk:∀p,p∈(A.map (·.1)).zip rs->(p.1,p.2.o)∈A:=fun p hp=>by obtain⟨i,hi⟩:=List.getElem?_of_mem hp;exact ew (TU h2 i p hi).1
    have Lh:∀i,(∃p∈A,p.1=i)->∃p∈(A.map (·.1)).zip rs,p.1=i:=fun i ⟨p,hp,e⟩=>by
     have:i∈((A.map (·.1)).zip rs).map (·.1):=by rw[yp h2];exact List.mem_map.2 ⟨p,hp,e⟩
     obtain⟨q,hq,e2⟩:=List.mem_map.1 this;exact⟨q,hq,e2⟩
    refine ap6 (fb:=cx.fbs) (n:=n) (X:=X) (W0:=W0) (ρ:=ρ) (F0:=s.fs) (L:=(A.map (·.1)).zip rs) (base:=fun i=>Aa.getD i ZC) hQ (adO hb) (fun p hp=>Ab _ (hA _ (Lk p hp))) (by rw[yp h2];exact hndA) (fun i p hp=> ?_) (fun i q x r hiq hx hq=> ?_) (fun p hp e he Xl=> ?_) (fun i hi CP Nk p hp=> ?_) (fun AA j' a' w' Bi FQ B0 GG=> ?_)
     _ Aa j a w (YJ _) BC hc (fun i hi=>.inl hi) (fun i hi=>hi) ?_ fuel hf
    .rw[tJ s.fs h2];have:=h5 i p.2 (TU h2 i p hp).2;rw[hr.own]at this;exact this
    .rcases qf g1 i q x r hiq (Nat.zero_le _) Xx (by simpa using hq)with h6|h6
     .exact .inr (jV _ _ h6)
     .exact .inl h6
    .have h6:=Co.1 (Co.1 g2 p hp) e Yw;simp only[Xl,Bool.not_true,Bool.false_or,ne,Nat.blt_eq]at h6;refine⟨h6.1,?_⟩;cases Ix:Aa.getD e.on ZC with
     |true=>exact .inl rfl
     |false=>
       right;have Qn:=(fL.1 (Ab _ (hA _ (Lk p hp)))).1;obtain⟨q,hq,e1⟩:=(DU e.on (Nat.lt_trans h6.1 Qn)).1 Ix;rcases MY q hq with h7|⟨q2,h7,e2⟩
       .exact Lh _ ⟨q,h7,e1⟩
       .exfalso;have:=Co.1 h6.2 q2 h7;rw[e2,e1]at this;simp at this
    .obtain⟨q,hq,e1⟩:=(DU i hi).1 CP;rcases MY q hq with h7|⟨q2,h7,e2⟩
     .exfalso;obtain⟨x,hx,ex⟩:=Lh i ⟨q,h7,e1⟩;exact Nk x hx ex
     .have h8:=Co.1 (Co.1 g3 q2 h7) p hp;simp only[eu]at h8;rw[e2,e1]at h8;rcases h8 with h8|h8
      .exact .inr (jV _ _ h8)
      .refine .inl (al9 hT h8 fun k hk O2 Bg=> ?_);simp only[ne,ZL,List.any_eq_false,ne]at O2;show(Aa.getD k ZC||_)=ZB;cases hlk:Aa.getD k ZC with
       |true=>rfl
       |false=>
         obtain⟨q3,hq3,e3⟩:=(DU k hk).1 hlk;rcases MY q3 hq3 with h9|⟨q4,h9,e4⟩
         .obtain⟨x,hx,ex⟩:=Lh k ⟨q3,h9,e3⟩;have:=O2.2 x hx;rw[Bool.false_or,List.any_eq_true];refine⟨x,hx,?_⟩;rw[ex]at this ⊢;simpa using this
         .have:=O2.1 q4 h9;rw[e4,e3]at this;simp at this
    .refine K6 AA j' a' w' Bi FQ (fun i=>⟨fun h=> ?_,fun h=> ?_⟩) ⟨?_,by rw[h4.1];exact hr.len,by rw[h4.2];exact hr.own⟩
     .rcases(B0 i).1 h with h|⟨p,hp,e⟩
      .exact .inl h
      .exact .inr ⟨_,Lk p hp,e⟩
     .rcases h with h|h
      .exact(B0 i).2 (.inl h)
      .exact(B0 i).2 (.inr (Lh i h))
     .rw[h3];have:=tJ s.fs h2 rs.length;rw[List.take_of_length_le (by rw[List.length_zip];omega),List.take_of_length_le (YJ _)]at this;rw[<-this];exact GG
    .rw[sD]
     .exact hr.rel
     .intro p hp;have OZ:=hA _ (Lk p hp);exact(DU p.1 (fL.1 (Ab _ OZ)).1).2 ⟨_,OZ,rfl⟩
   simp only[Lq]at h;split at h
   ·
    obtain⟨rs,s',Ak,h1,g1,l1,h2,h3,h4,h5⟩:=nX (P:=P) (base:=W0.heap.size) hT hS AO CQ.2.1.symm (C3.map (·.2)) s kw _ h hg hr.le;split at h1
    .rename_i Jb;refine part C3 [] rs s' Ak (fun p hp=>hp) EA (fun p hp=>.inl hp) l1 h2 h3 h4 h5 Jb (fun AA j' a' w' Bi FQ B0 CU Iu _=> ?_);refine wpAnyIn_done ?_ (hK s' Ak ρ I j' a' w' h1 g1 (.of l1 _ _) CU) Iu;cases A9:Region.ready .any ops AA with
     |nil=>rfl
     |cons i l=>
       exfalso;have hi:i∈Region.ready .any ops AA:=by rw[A9];exact bG
       obtain⟨hu,o,ho,_⟩:=mem_ready.1 hi;have OU:=(fL.1 ho).1;have:AA.getD i ZB=AA.getD i ZC:=by rw[iz,iz,Array.getElem?_eq_getElem Fn];rfl
       rw[this]at hu;have h6:AA.getD i ZC=ZB:=by
        cases Ix:Aa.getD i ZC with
        |true=>exact(B0 i).2 (.inl Ix)
        |false=>exact(B0 i).2 (.inr ((DU i OU).1 Ix))
       rw[h6]at hu;cases hu
    .exact h1.elim
   .rename_i ci co Xk;have Qd:=xV Xk;have Td:=Ab _ Qd;split at h
    rotate_left
    ·
     exact h.elim
    obtain⟨rs,s',Ak,h1,g1,l1,h2,h3,h4,h5⟩:=nX (P:=P) (base:=W0.heap.size) hT hS AO CQ.2.1.symm _ s kw _ h hg hr.le;split at h1
    .rename_i Jb;have idxT:∀{p q:Nat×Oper},p∈C3->q∈C3->p.1=q.1->p=q:=by
      intro p q hp hq e;have h6:=Ab p hp;have h7:=Ab q hq;rw[e,h7]at h6;exact Prod.ext e (YL h6).symm
     refine part _ _ rs s' Ak (fun p hp=>(List.mem_filter.1 hp).1) (EA.sublist (List.Sublist.map _ List.filter_sublist)) (fun p hp=> ?_) l1 h2 h3 h4 h5 Jb (fun AA j' a' w' Bi FQ B0 CU Iu hf'=> ?_)
     .by_cases e1:p.1=ci
      .exact .inr ⟨(ci,co),bG,e1.symm⟩
      .have e2:ZI p.1 ci=ZC:=by
        cases Ds:ZI p.1 ci with
        |false=>rfl
        |true=>exact ak (Ah Ds) e1
       cases HX:nq (gq ops) p.1 ci with
       |false=>exact .inl (List.mem_filter.2 ⟨hp,by simp[e2,HX]⟩)
       |true=>exact .inr ⟨p,cm _ (List.mem_filter.2 ⟨hp,by simp[e2,HX]⟩),rfl⟩
     ·
      have JV:ci<ops.size:=(fL.1 Td).1;have gd:∀i,i<ops.size->AA.getD i ZB=AA.getD i ZC:=fun i hi=>by rw[iz,iz,Array.getElem?_eq_getElem Fn];rfl
      have left:∀i,i<ops.size->(AA.getD i ZC=ZC↔(i=ci\/∃p∈C3.filter fun p=>nq (gq ops) p.1 ci &&!ZI p.1 ci,p.1=i)):=by
       intro i hi;constructor
       .intro h6;have h7:Aa.getD i ZC=ZC:=by
         cases Ix:Aa.getD i ZC with
         |false=>rfl
         |true=>rw[(B0 i).2 (.inl Ix)]at h6;cases h6
        obtain⟨p,hp,rfl⟩:=(DU i hi).1 h7;by_cases e1:p.1=ci
        .exact .inl e1
        .right;have e2:ZI p.1 ci=ZC:=by
          cases Ds:ZI p.1 ci with
          |false=>rfl
          |true=>exact ak (Ah Ds) e1
         cases HX:nq (gq ops) p.1 ci with
         |true=>exact⟨p,List.mem_filter.2 ⟨hp,by simp[e2,HX]⟩,rfl⟩
         |false=>exfalso;have:=(B0 p.1).2 (.inr ⟨p,List.mem_filter.2 ⟨hp,by simp[e2,HX]⟩,rfl⟩);rw[this]at h6;cases h6
       .intro h6;cases Ix:AA.getD i ZC with
        |false=>rfl
        |true=>
          exfalso;rcases(B0 i).1 Ix with h7|⟨p,hp,e⟩
          .have CD:∃p∈C3,p.1=i:=by
            rcases h6 with rfl|⟨p,hp,e⟩
            .exact⟨_,Qd,rfl⟩
            .exact⟨p,(List.mem_filter.1 hp).1,e⟩
           rw[(DU i hi).2 CD]at h7;cases h7
          .obtain⟨Ti,Nn⟩:=List.mem_filter.1 hp;rcases h6 with rfl|⟨q,hq,e2⟩
           .rw[e]at Nn;simp at Nn
           .obtain⟨Kc,E8⟩:=List.mem_filter.1 hq;have:=idxT Ti Kc (e.trans e2.symm);subst this;simp only[ne,ZL]at Nn E8;rw[Nn.2]at E8;exact ak E8.1 (by simp)
      have Le:AA.getD ci ZC=ZC:=(left ci JV).2 (.inl rfl);have notB:∀i,AA.getD i ZC=ZC->i<ops.size->i≠ci->∀o,ops[i]? =ZA o->¬∀e∈o.after,ZX .any e=ZB->AA.getD e.on ZC=ZB:=by
       intro i hu OU Bg o ho AX;rcases(left i OU).1 hu with h6|⟨p,hp,rfl⟩
       .exact Bg h6
       .have h7:=(List.mem_filter.1 hp).2;simp only[ne]at h7;have:=jV _ _ h7.1 (fun i=>AA.getD i ZC) FQ (fun o' GE e he Ds=>by
         rw[ho]at GE;cases GE;exact AX e he Ds)
        (try dsimp only at this)
        rw[Le]at this;cases this
      obtain⟨f,rfl⟩:∃f,Iu=f+1:=by
       cases Iu with
       |zero=>have:=vv (ops:=ops) Bi JV Le;omega
       |succ f=>exact⟨f,rfl⟩
      have step:wpOpIn (Fw ro) 0 P ops Q ci (wpAnyIn (Fw ro) 0 P .any ops Q f (AA.setIfInBounds ci ZB)) a' w'\/¬(∀e∈co.after,ZX .any e=ZB->AA.getD e.on ZC=ZB):=by
       by_cases AX:∀e∈co.after,ZX .any e=ZB->AA.getD e.on ZC=ZB
       .left;refine ajE hT hS AO CQ Td h1 g1 CU (fun s2 Dd ρ2 I2 j2 a2 w2 q1 q2 q3 q4=> ?_);have Cs:∀k,(AA.setIfInBounds ci ZB).getD k ZC=if k=ci then ZB else AA.getD k ZC:=by
         intro k;rw[iz,Array.getElem?_setIfInBounds];by_cases hk:k=ci
         .subst hk;simp[Bi,JV]
         .have GX:¬ci=k:=fun e=>hk e.symm;simp[hk,GX,iz]
        refine ih _ s2 Dd k ρ2 I2 (AA.setIfInBounds ci ZB) j2 a2 w2 q1 q2 q4 (fun p hp=>Ab p (List.mem_filter.1 hp).1) (EA.sublist (List.Sublist.map _ List.filter_sublist)) (by simp[Bi]) (tu Bi Td FQ AX) (fun i hi=> ?_)
         (fun s3 kw3 ρ3 I3 j3 a3 w3 p1 p2 p3 p4=>hK s3 kw3 ρ3 I3 j3 a3 w3 p1 p2 ((Nx.of l1 _ _).trans (q3.trans p3)) p4) f (by have:=vv (ops:=ops) Bi JV Le;omega)
        rw[Cs];split
        next e=>subst e;refine⟨fun h=>ST,fun⟨p,hp,e⟩=> ?_⟩;have:=(List.mem_filter.1 hp).2;rw[e]at this;simp at this
        next Bg=>rw[left i hi];exact⟨fun h=>h.resolve_left Bg,.inr⟩
       .exact .inr AX
      refine⟨fun Ei=> ?_,fun i hi=> ?_⟩
      .exfalso;have key:∀(k:Nat),k<ops.size->AA.getD k ZC=ZC->False:=by
        intro k
        induction k using Nat.strongRecOn with
        |_ k ihk=>
          intro Hj hku;obtain⟨o,ho⟩:∃o,ops[k]? =ZA o:=⟨ops[k],Array.getElem?_eq_getElem Hj⟩
          have:k∈Region.ready .any ops AA:=by
           rw[mem_ready];refine⟨by rw[gd k Hj];exact hku,o,ho,fun e he Ds=> ?_⟩;have Ap:=asd hb ho e he Ds;cases Ix:AA.getD e.on ZC with
           |true=>rfl
           |false=>exact(ihk e.on Ap (Nat.lt_trans Ap Hj) Ix).elim
          rw[Ei]at this;cases this
       exact key ci JV Le
      .obtain⟨hu,o,ho,AX⟩:=mem_ready.1 hi;have OU:=(fL.1 ho).1;rw[gd i OU]at hu;by_cases Bg:i=ci
       .subst Bg;rw[Td]at ho;cases ho;rcases step with h6|h6
        .exact h6
        .exact ak AX h6
       .exact ak AX (notB i hu OU Bg o ho)
    .exact h1.elim
end
section
variable {P:Program}{sp:Spec}{ρ:Env}{G:Env->E->Prop}{I:Nat->List Dt->Prop}{cx:Cx}{cl:HK}{n:Nat}{X:List Value}{W0:Wb}{ro:Option Nat}{ry:Option RfS}{rl:Option RlK}
def ad0(tm:Nat->V)(heap:List Ob)(y:Lp):Aw tm (heap++[.loop y])=(Aw tm heap).setl heap.length (ZA y):=by
 refine Fz.ext' (fun _=>rfl) (fun b=> ?_) (fun b=> ?_) (fun b=> ?_)
 .simp only[Fz.setl,Aw,B8];rcases Nat.lt_trichotomy b heap.length with h|h|h
  .rw[AW h]
  .subst h;simp
  .rw[bN Xz,bN Fn]
 .simp only[Fz.setl,Aw,BP];rcases Nat.lt_trichotomy b heap.length with h|h|h
  .rw[AW h]
  .subst h;simp
  .rw[bN Xz,bN Fn]
 .simp only[Fz.setl,Aw,GI];rcases Nat.lt_trichotomy b heap.length with h|h|h
  .rw[AW h,aa Fn]
  .subst h;simp
  .rw[bN Xz,bN Fn,aa Fn]
def sQ{tm:Nat->V}{heap:List Ob}{id:Nat}(h:heap[id]? =ZA (.loop y))(y':Lp):Aw tm (heap.set id (.loop y'))=(Aw tm heap).setl id (ZA y'):=by
 have Ap:=(bX.1 h).1;refine Fz.ext' (fun _=>rfl) (fun b=> ?_) (fun b=> ?_) (fun b=> ?_)
 .simp only[Fz.setl,Aw,B8,dY];by_cases e:id=b
  .exact YE
  .simp only[e,dz]
 .simp only[Fz.setl,Aw,BP,dY];by_cases e:id=b
  .exact YE
  .simp only[e,dz]
 .simp only[Fz.setl,Aw,GI,dY];by_cases e:id=b
  .subst e;simp only[aW,Ap]
  .exact Yn
def ad1{tm:Nat->V}{heap:List Ob}{id:Nat}(h:heap[id]? =ZA (.loop y)):Aw tm (heap.set id .gone)=(Aw tm heap).endl id:=by
 have Ap:=(bX.1 h).1;refine Fz.ext' (fun _=>rfl) (fun b=> ?_) (fun b=> ?_) (fun b=> ?_)
 .simp only[Fz.endl,Aw,B8,dY];by_cases e:id=b
  .exact YE
  .simp only[e,dz]
 .simp only[Fz.endl,Aw,BP,dY];by_cases e:id=b
  .subst e;simp only[aW,Ap]
  .exact Yn
 .simp only[Fz.endl,Aw,GI,dY];by_cases e:id=b
  .subst e;simp only[aW,Ap]
  .exact Yn
def oI{heap:List Ob}{id:Nat}:GI heap id=ZA y↔heap[id]? =ZA (.loop y):=by
 unfold GI;constructor
 .intro h;split at h
  next y' hy=>cases h;exact hy
  .exact ST
 .intro h;rw[h]
def V5{heap:List Ob}(h:uQ heap=ZB)(i:Nat):GI heap i=ZD:=by
 cases hl:GI heap i with
 |none=>rfl
 |some y=>have:=Co.1 h _ (ew (oI.1 hl));cases this
def Uj{heap:List Ob}{id:Nat}(h:uQ (heap.set id .gone)=ZB)(i:Nat)(y:Lp)(hy:GI heap i=ZA y):i=id:=by
 refine Classical.byContradiction fun Bg=> ?_;have h1:=V5 h i;have h2:=oI.1 hy;have:(heap.set id .gone)[i]? =ZA (.loop y):=by rw[dY,aa (fun e=>Bg e.symm)];exact h2
 rw[oI.2 this]at h1;cases h1
def ade{f:Operand}{id g:Nat}(hr:At cx ρ n X W0 s j a w)(h:yu (Ha s.n s.tmps f) id=ZA (g,args)):
  ∃x y:List Value,a.eval f=.func (.func g) x.toArray y.toArray/\∀(j1:J) (l:Nat),Sub j j1->j1.g.y id=ZA l->(x++[Value.func (.yield l) #[] #[]]++y).length=args.length/\∀(i:Nat) v,args[i]? =ZA v->∃u,(x++[Value.func (.yield l) #[] #[]]++y)[i]? =ZA u/\v.den ρ j1=ZA u:=by
 have mid:∀(j1:J) (l:Nat),j1.g.y id=ZA l->∀(i:Nat) v,[V.one (.yld id)][i]? =ZA v->∃u,[Value.func (.yield l) #[] #[]][i]? =ZA u/\v.den ρ j1=ZA u:=by
  intro j1 l hl i v hv;cases i with
  |zero=>simp only[cH,aU]at hv;subst hv;exact⟨_,rfl,by simp only[V.den,C.den,hl,ZK]⟩
  |succ i=>simp at hv
 unfold yu at h;split at h
 next g' hf=>cases h;have h4:=hr.ev hf;exact⟨[],[],(YL h4).symm,fun j1 l hs hl=>⟨rfl,by simpa using mid j1 l hl⟩⟩
 .rename_i g' fs ps hf;cases h;obtain⟨x,y,hx,hy,h5⟩:=gD (show Fh g (fg j fs) (fg j ps)=ZA (a.eval f)from hr.ev hf);obtain⟨e1,e2⟩:=nh (ρ:=ρ) hx;obtain⟨e3,e4⟩:=nh (ρ:=ρ) hy;have up:∀{j1:J} (hs:Sub j j1) {l:List V} {us:List Value},(∀(i:Nat) v,l[i]? =ZA v->∃u,us[i]? =ZA u/\v.den ρ j=ZA u)->∀(i:Nat) v,l[i]? =ZA v->∃u,us[i]? =ZA u/\v.den ρ j1=ZA u:=fun hs l us hh i v hv=>by
   obtain⟨u,h1,h2⟩:=hh i v hv;exact⟨u,h1,V.den_sub hs h2⟩
  exact⟨x,y,h5,fun j1 l hs hl=>⟨by simp only[cQ,e1,e3,List.length_singleton],pz (by simp only[cQ,e1,List.length_singleton]) (pz e1 (up hs e2) (mid j1 l hl)) (up hs e4)⟩⟩
 .exact ST
def pA(CQ:CallOk P sp G cx ry cl)(hrl:∀f,rl=ZA f->ro=ZD/\∀r,CallOk P sp G cx (ZA r) (f r))(hm:P.follows .mixedOrders=ZB)(hT:∀t i,(t,i)∈cx.ty->TIok P t i)(hS:∀s∈cx.sm,SmOk P sp s)(AO:∀s∈cx.sm,∀s'∈cx.sm,s.key=s'.key->s=s')(fuel:Nat):
  ∀(c:Code) (W0:Wb) (s:St) (kw:Kw) (k:Sig->St->Kw->Tr) (Q:Exit->Act->World->Prop) (ρ:Env) (I:Nat->List Dt->Prop) (j:J) (a:Act) (w:World),Tie sp ry X W0->(rl.isSome=ZB->W0.top=ZB/\W0.rf=ZD)->(gI cl rl cx fuel c s kw k).holds sp G ρ I->Good sp cx.sm ρ kw->At cx ρ n X W0 s j a w->
   (∀M' sg s' Ak ρ' I' j' a' w',(rl=ZD->M'=W0.M)->(k sg s' Ak).holds sp G ρ' I'->Good sp cx.sm ρ' Ak->Ag kw.vk.length ρ ρ'->(∀m,m<kw.lv->I' m=I m)->kw.lv<=Ak.lv->kw.vk.length<=Ak.vk.length->At cx ρ' n X {W0 with M:=M'} s' j' a' w'->Q sg.exit' a' w')->c.wpIn (Fw ro) 0 P Q a w:=by
 intro c
 induction c with
 |skip=>intro W0 s kw k Q ρ I j a w ht EY h hg hr hQ;exact wpIn_skip (hQ W0.M _ _ _ _ _ _ _ _ (fun _=>rfl) h hg (.refl _ _) (fun _ _=>rfl) (YJ _) (YJ _) hr)
 |label l=>intro W0 s kw k Q ρ I j a w ht EY h hg hr hQ;exact wpIn_label (hQ W0.M _ _ _ _ _ _ _ _ (fun _=>rfl) h hg (.refl _ _) (fun _ _=>rfl) (YJ _) (YJ _) hr)
 |exit id=>intro W0 s kw k Q ρ I j a w ht EY h hg hr hQ;exact wpIn_exit (hQ W0.M (.exit id) _ _ _ _ _ _ _ (fun _=>rfl) h hg (.refl _ _) (fun _ _=>rfl) (YJ _) (YJ _) hr)
 |ret=>intro W0 s kw k Q ρ I j a w ht EY h hg hr hQ;exact wpIn_ret (hQ W0.M .ret _ _ _ _ _ _ _ (fun _=>rfl) h hg (.refl _ _) (fun _ _=>rfl) (YJ _) (YJ _) hr)
 |scope c ih=>intro W0 s kw k Q ρ I j a w ht EY h hg hr hQ;refine lj (ih W0 s kw k _ ρ I j a w ht EY h hg hr fun M' sg s' Ak ρ' I' j' a' w' q0 q1 q2 q3 q4 q5 q6 q7=> ?_);have:=hQ M' sg s' Ak ρ' I' j' a' w' q0 q1 q2 q3 q4 q5 q6 q7;cases sg<;>exact this
 |region id ops draw=>
   intro W0 s kw k Q ρ I j a w ht EY h hg hr hQ;simp only[gI]at h;split at h
   .obtain⟨rs,s',Ak,h1,g1,l1,h2,h3,h4,h5⟩:=nX (P:=P) (base:=W0.heap.size) hT hS AO ht.1.symm ops.toList s kw _ h hg hr.le;rw[hr.own]at h5;have GV:∀j' a' w',(k .normal s' Ak).holds sp G ρ I->Rel ρ n X W0 cx.fbs (Cb rs s.fs) j' a' w'->Q .normal a' w':=fun j' a' w' hk AM=>
     hQ W0.M .normal s' Ak ρ I j' a' w' (fun _=>rfl) hk g1 (.refl _ _) (fun _ _=>rfl) (by rw[l1.lv];exact YJ _) l1.vk ⟨by rw[h3];exact AM,by rw[h4.1];exact hr.len,by rw[h4.2];exact hr.own⟩
    cases draw with
    |false=>
      refine wpIn_region ?_;have BC:ops.size=rs.length:=by rw[<-Array.length_toList,<-h2,List.length_map]
      rw[BC,List.range_eq_range'];exact sC (P:=P) rs [] s.fs (by simpa using h2.symm) (by simpa using h5) (by simpa[Cb]using hr.rel) (fun j' a' w' AM=>GV j' a' w' h1 (by simpa using AM))
    |true=>
      simp only[aW]at h1;split at h1
      .rename_i hord;obtain⟨g2,g3⟩:=ahE (ops:=ops) anU rs [] [] (by simpa using h2.symm) hord rfl (fun i hi=>by simp at hi);refine wpIn_region_any hm ?_;have BC:ops.size=rs.length:=by rw[<-Array.length_toList,<-h2,List.length_map]
       refine adH (F0:=s.fs) (L:=rs) h2.symm h5 (fun i o ho e he hb=> ?_) (fun k i x r hk hx hri=>by simpa using g3 k i x r hk (Nat.zero_le _) Xx (by simpa using hri)) (fun j' a' w' AM=>GV j' a' w' h1 AM) ops.size (Array.replicate ops.size ZC) j a _ (by simp[BC]) ?_ ?_ ?_
       .have Ap:i<rs.length:=by
         rw[<-BC];rcases bn i ops.size with h6|h6
         .exact h6
         .rw[Array.getElem?_eq_none h6]at ho;cases ho
        have hri:rs[i]? =ZA rs[i]:=Az Ap;have:=anU i _ rs h2.symm hri;rw[ho]at this;cases this;exact g2 i _ (Nat.zero_le _) (by simp) e he hb
       .intro i o _ hs;simp only[iz,Array.getElem?_replicate]at hs;split at hs<;>simp at hs
       .exact cO List.countP_le_length (by simp[BC])
       .rw[xl rs 0 s.fs (fun m hm=>by
         simp only[iz,Array.getElem?_replicate];split<;>simp)]
        exact hr.rel.more (Ext.refl w).drew
      .exact h1.elim
   .have hK:∀s' Ak ρ' I' j' a' w',(k .normal s' Ak).holds sp G ρ' I'->Good sp cx.sm ρ' Ak->Nx kw Ak ρ ρ' I I'->At cx ρ' n X W0 s' j' a' w'->Q .normal a' w':=
     fun s' Ak ρ' I' j' a' w' q1 q2 q3 q4=>hQ W0.M .normal s' Ak ρ' I' j' a' w' (fun _=>rfl) q1 q2 q3.ag q3.inv q3.lv q3.vk q4
    cases draw with
    |false=>refine wpIn_region ?_;rw[List.range_eq_range',<-Array.length_toList];exact ahr hT hS AO ⟨CQ,ht⟩ ops.toList 0 (fun m o hm=>by rw[be,<-lr];exact hm) s kw _ ρ I j a w h hg hr hK
    |true=>
      simp only[aW]at h;split at h
      .rename_i hb;refine wpIn_region_any hm ?_;refine lU (Q:=fun e a w=>e=.normal/\Q .normal a w) (fun e a w h=>by rw[h.1];exact h.2) _ _ _ _ ?_;have EA:((gB 0 ops.toList).map (·.1)).Nodup:=by rw[rj];exact List.nodup_range'
       have gd:∀i,i<ops.size->(Array.replicate ops.size ZC).getD i ZC=ZC:=fun i hi=>by rw[iz,Array.getElem?_replicate,ae hi];rfl
       refine aqs (W0:=W0) (n:=n) (X:=X) hT hS AO ⟨CQ,ht⟩ hb (fun c a w h=>by cases h.1) _ _ s kw _ ρ I _ j a _ h hg ⟨hr.rel.more (Ext.refl w).drew,hr.len,hr.own⟩ (fun p hp=>ai6 hp) EA (by simp) ?_ (fun i hi=>⟨fun _=> ?_,fun _=>gd i hi⟩)
        (fun s' Ak ρ' I' j' a' w' q1 q2 q3 q4=>⟨rfl,hK s' Ak ρ' I' j' a' w' q1 q2 q3 q4⟩) ops.size ?_
       .intro i o ho hs;have:=gd i (fL.1 ho).1;exact Bool.noConfusion (hs.symm.trans this)
       .have:i∈(gB 0 ops.toList).map (·.1):=by rw[rj,List.mem_range'_1];simp;exact hi
        obtain⟨p,hp,e⟩:=List.mem_map.1 this;exact⟨p,hp,e⟩
       .exact cO List.countP_le_length (by simp)
      .exact h.elim
 |seq x y ihx ihy=>
   intro W0 s kw k Q ρ I j a w ht EY h hg hr hQ;simp only[gI]at h;split at h
   .refine wpIn_seq (ihx W0 s kw _ _ ρ I j a w ht EY h hg hr (fun M' sg s' Ak ρ' I' j' a' w' Ee h' CC CN DZ B0 CG AM=> ?_));cases sg with
    |normal=>exact ihy {W0 with M:=M'} s' Ak k Q ρ' I' j' a' w' ht EY h' CC AM (fun M2 sg s2 Dd ρ2 I2 j2 a2 w2 MU h2 hg2 DO PR J5 Ic G0=>hQ M2 sg s2 Dd ρ2 I2 j2 a2 w2 (fun e=>(MU e).trans (Ee e)) h2 hg2 (CN.trans (DO.mono CG)) (fun m hm=>(PR m Fn).trans (DZ m hm)) Fn Fn G0)
    |exit id=>exact hQ M' (.exit id) s' Ak ρ' I' j' a' w' Ee h' CC CN DZ B0 CG AM
    |ret=>exact hQ M' .ret s' Ak ρ' I' j' a' w' Ee h' CC CN DZ B0 CG AM
   .rename_i id pls _;split at h
    .refine wpIn_seq (ihx W0 s kw _ _ ρ I j a w ht EY h hg hr (fun M' sg s' Ak ρ' I' j' a' w' Ee h' CC CN DZ B0 CG AM=> ?_));cases sg with
     |normal=>exact h'.elim
     |exit id=>exact hQ M' (.exit id) s' Ak ρ' I' j' a' w' Ee h' CC CN DZ B0 CG AM
     |ret=>exact hQ M' .ret s' Ak ρ' I' j' a' w' Ee h' CC CN DZ B0 CG AM
    .split at h
     .rename_i hd vks JM;have AE:hd.tmps.length=n+X.length/\hd.n=n:=⟨(kM JM).1.trans hr.len,(kM JM).2.trans hr.own⟩
      obtain⟨inv,CF,Hg⟩:=h;refine wpIn_seq (ihx W0 s {kw with lv:=kw.lv+1} _ _ ρ (GQ I kw.lv inv) j a w ht EY CF ⟨hg.pc,hg.vk,hg.log⟩ hr (fun M' sg s' Ak ρ' I' j' a' w' Ee h' CC CN DZ B0 CG AM=> ?_));have yl:∀m,m<kw.lv->I' m=I m:=fun m hm=>(DZ m (by show m<kw.lv+1;omega)).trans (pR I inv Fn);cases sg with
      |normal=>
        obtain⟨ds,h1,h2,j3,h3⟩:=acb (ρ:=ρ) h' CC.vk AE CN AM;rw[DZ kw.lv (Nat.lt_succ_self _),iL]at h1;obtain⟨ρ2,g1,g2,g3⟩:=Hg ds h2 h1;refine ihy {W0 with M:=M'} hd (kw.head vks) k Q ρ2 I j3 a' w' ht EY g3 (mV hg g1 (by rw[g2];exact h2)) (h3 ρ2 g1 g2) (fun M2 sg s2 Dd ρ3 I2 j2 a2 w2 MU h2 hg2 DO PR J5 Ic G0=>hQ M2 sg s2 Dd ρ3 I2 j2 a2 w2 (fun e=>(MU e).trans (Ee e)) h2 hg2 (g1.trans (DO.mono ?_)) (fun m hm=>PR m ?_) ?_ ?_ G0)
        .simp[Kw.head]
        .show m<kw.lv+1;omega
        .have:kw.lv+1<=Dd.lv:=J5;omega
        .have:(kw.vk++vks).length<=Dd.vk.length:=Ic;rw[cQ]at this;omega
      |exit id=>exact hQ M' (.exit id) s' Ak ρ' I' j' a' w' Ee h' CC CN yl Yt CG AM
      |ret=>exact hQ M' .ret s' Ak ρ' I' j' a' w' Ee h' CC CN yl Yt CG AM
     .exact h.elim
 |cond c x y ihx ihy=>
   intro W0 s kw k Q ρ I j a w ht EY h hg hr hQ;simp only[gI]at h;split at h
   .rename_i e he;have hc:a.eval c=.bool (e.B ρ):=by
     exact kq (hr.ev he)
    obtain⟨Bn,h1,g1,v1,l1⟩:=aC _ _ _ h hg;have hQ':∀M' sg s' Ak ρ' I' j' a' w',(rl=ZD->M'=W0.M)->(k sg s' Ak).holds sp G ρ' I'->Good sp cx.sm ρ' Ak->Ag Bn.vk.length ρ ρ'->(∀m,m<Bn.lv->I' m=I m)->Bn.lv<=Ak.lv->Bn.vk.length<=Ak.vk.length->At cx ρ' n X {W0 with M:=M'} s' j' a' w'->Q sg.exit' a' w':=by intro M' sg s' Ak ρ' I' j' a' w' Ee h' CC CN DZ B0 CG AM;rw[v1]at CN CG;rw[l1.lv]at DZ B0;exact hQ M' sg s' Ak ρ' I' j' a' w' Ee h' CC CN DZ B0 CG AM
    refine wpIn_cond_split hc (fun hcb=> ?_) (fun hcb=> ?_)
    .rw[hcb]at h1;exact ihx W0 s Bn k Q ρ I j a w ht EY h1 g1 hr hQ'
    .rw[hcb]at h1;exact ihy W0 s Bn k Q ρ I j a w ht EY h1 g1 hr hQ'
   .exact h.elim
 |block id c ih=>
   intro W0 s kw k Q ρ I j a w ht EY h hg hr hQ;refine wpIn_block (ih W0 s kw _ _ ρ I j a w ht EY h hg hr (fun M' sg s' Ak ρ' I' j' a' w' Ee h' CC CN DZ B0 CG AM=> ?_));cases sg with
   |normal=>exact hQ M' .normal s' Ak ρ' I' j' a' w' Ee h' CC CN DZ B0 CG AM
   |ret=>exact hQ M' .ret s' Ak ρ' I' j' a' w' Ee h' CC CN DZ B0 CG AM
   |exit i=>
     dsimp only at h';unfold Sig.exit' Exit.inBlock;dsimp only;split at h'
     next hi=>rw[ae (Ah hi)];exact hQ M' .normal s' Ak ρ' I' j' a' w' Ee h' CC CN DZ B0 CG AM
     next hi=>rw[aa (fun e=>hi (by rw[e];simp))];exact hQ M' (.exit i) s' Ak ρ' I' j' a' w' Ee h' CC CN DZ B0 CG AM
 |loop c ih=>
   intro W0 s kw k Q ρ I j a w ht EY h hg hr hQ;simp only[gI]at h;split at h
   .refine wpIn_loop_rounds fuel ?_;have key:∀(m:Nat) (M:List Nat) (s:St) (Dd:Kw) (ρ2:Env) (I2:Nat->List Dt->Prop) (j:J) (a:Act) (w:World),(rl=ZD->M=W0.M)->(SK (gI cl rl cx fuel c) m s Dd k).holds sp G ρ2 I2->Good sp cx.sm ρ2 Dd->Ag kw.vk.length ρ ρ2->(∀m,m<kw.lv->I2 m=I m)->kw.lv<=Dd.lv->kw.vk.length<=Dd.vk.length->At cx ρ2 n X {W0 with M:=M} s j a w->Code.roundsIn (Fw ro) 0 P c Q m a w:=by
     intro m
     induction m with
     |zero=>intro M s Dd ρ2 I2 j a w hM h;exact h.elim
     |succ m ihm=>
       intro M s Dd ρ2 I2 j a w hM h hg DO PR J5 Ic hr;rw[roundsIn_succ];simp only[SK]at h;refine ih {W0 with M:=M} s Dd _ _ ρ2 I2 j a w ht EY h hg hr (fun M' sg s' Ak ρ' I' j' a' w' Ee h' CC CN DZ B0 CG AM=> ?_);have Gs:Ag kw.vk.length ρ ρ':=DO.trans (CN.mono Ic);have LI:∀m,m<kw.lv->I' m=I m:=fun m hm=>(DZ m Fn).trans (PR m hm);cases sg with
       |normal=>exact ihm M' s' Ak ρ' I' j' a' w' (fun e=>(Ee e).trans (hM e)) h' CC Gs LI Fn Fn AM
       |exit id=>exact hQ M' (.exit id) s' Ak ρ' I' j' a' w' (fun e=>(Ee e).trans (hM e)) h' CC Gs LI Fn Fn AM
       |ret=>exact hQ M' .ret s' Ak ρ' I' j' a' w' (fun e=>(Ee e).trans (hM e)) h' CC Gs LI Fn Fn AM
    exact key fuel W0.M s kw ρ I j a w (fun _=>rfl) h hg (.refl _ _) (fun _ _=>rfl) (YJ _) (YJ _) hr
   .rename_i id pls _;split at h
    .exact h.elim
    .split at h
     .rename_i hd vks θ ex JM Gu;split at h
      .rename_i Ai;have AE:hd.tmps.length=n+X.length/\hd.n=n:=⟨(kM JM).1.trans hr.len,(kM JM).2.trans hr.own⟩
       obtain⟨inv,μ,P8,Hg⟩:=h;obtain⟨d1,d2⟩:=sI Ai hg.vk AE (.refl _ _) hr;have key:∀(m:Nat) (M:List Nat) (ds:List Dt) (a:Act) (w:World),(rl=ZD->M=W0.M)->μ ds<m->inv ds->okDs vks ds->UI cx n X {W0 with M:=M} ρ kw.vk.length vks hd ds a w->Code.roundsIn (Fw ro) 0 P c Q m a w:=by
        intro m
        induction m with
        |zero=>intro M ds a w _ h;omega
        |succ m ihm=>
          intro M ds a w hM hμ CD Bw CU;rw[roundsIn_succ];obtain⟨ρ2,g1,g2,g3⟩:=Hg ds Bw CD;obtain⟨j2,IA⟩:=CU;refine ih {W0 with M:=M} hd (kw.head vks) _ _ ρ2 _ j2 a w ht EY g3 (mV hg g1 (by rw[g2];exact Bw)) (IA ρ2 g1 g2) (fun M' sg s' Ak ρ' I' j' a' w' Ee h' CC CN DZ B0 CG AM=> ?_);have Ic:kw.vk.length<=(kw.head vks).vk.length:=by simp[Kw.head]
          have Gs:Ag kw.vk.length ρ ρ':=g1.trans (CN.mono Ic);have LI:∀m,m<kw.lv->I' m=I m:=fun m hm=>(DZ m (by show m<kw.lv+1;omega)).trans (pR I _ Fn);have hl3:kw.lv<=Ak.lv:=Yt;have O5:kw.vk.length<=Ak.vk.length:=Fn;cases sg with
          |normal=>obtain⟨JJ,k1,k2,k3⟩:=acb (ρ:=ρ) h' CC.vk AE Gs AM;rw[DZ kw.lv (Nat.lt_succ_self _),iL]at k1;exact ihm M' JJ a' w' (fun e=>(Ee e).trans (hM e)) Fn k1.1 k2 k3
          |exit id=>exact hQ M' (.exit id) s' Ak ρ' I' j' a' w' (fun e=>(Ee e).trans (hM e)) h' CC Gs LI hl3 O5 AM
          |ret=>exact hQ M' .ret s' Ak ρ' I' j' a' w' (fun e=>(Ee e).trans (hM e)) h' CC Gs LI hl3 O5 AM
       exact wpIn_loop_rounds (μ ((Cr vks θ).D ρ)+1) (key _ W0.M _ a w (fun _=>rfl) (Nat.lt_succ_self _) P8 d1 d2)
      .exact h.elim
     .exact h.elim
 |rangeFunc f ps assign body=>
   intro W0 s kw k Q ρ I j a w ht EY h hg hr hQ;simp only[gI]at h;split at h<;>first|exact h.elim|skip
   rename_i rlf g args BD _ _;split at h<;>first|exact h.elim|skip
   rename_i D9;rw[ne]at D9;have I0:g<yB:=by simpa[Nat.blt_eq]using D9.1
   obtain⟨rfl,hcr⟩:=hrl _ rfl;obtain⟨w0,M0,top0,rf0,HG,K8⟩:=W0;obtain⟨Ld,Hn⟩:=EY rfl;dsimp only at Ld Hn;subst Ld Hn;obtain⟨x,y,Ao,P0⟩:=ade hr BD;refine wpIn_rangeFunc fun fn _=> ?_;obtain⟨o,ho⟩:∃o:Loop,o={state:=.ready,pending:=ZD,fn,tmps:=a.tmps,params:=ps,assign,body,defers:=w.heap.size}:=⟨_,rfl⟩
   obtain⟨rf,Hn⟩:∃rf:Rf,rf=⟨ps,assign,body,a.tmps,w.heap.size+1⟩:=⟨_,rfl⟩
   have hl:rf.l=w.heap.size+1:=by rw[Hn]
   have P4:(St.mk s.tmps (s.heap++[.loop ⟨.ready,ZD⟩])).fs=s.fs.setl s.heap.length (ZA ⟨.ready,ZD⟩):=ad0 _ _ _;have GG:=hr.rel.loopNew (id:=s.heap.length) (jT (YJ _)).1 (V5 D9.2 _) rfl rfl hl (o:=o) ⟨by rw[ho];rfl,by rw[ho];rfl,by rw[ho,Hn],by rw[ho,Hn],by rw[ho,Hn],by rw[ho,Hn]⟩;rw[<-P4]at GG;obtain⟨j1,hj1⟩:∃j1,j1=({j with g:=⟨fun b=>if b=s.heap.length then ZA rf.l else j.g.y b,fun k=>if k=rf.l then ZA (.loop o)else if k=w.heap.size then ZA (.deferred (ZA []))else j.g.z k⟩}:J):=⟨_,rfl⟩
   rw[<-hj1]at GG;have QA:j1.g.y s.heap.length=ZA (w.heap.size+1):=by rw[hj1];simp[hl]
   have BE:Sub j j1:=by
    rw[hj1];exact⟨fun _ _ h=>h,fun _ _ h=>h,fun _ _ h=>h,fun b k hb=>by
     show(if b=s.heap.length then ZA rf.l else j.g.y b)=ZA k;by_cases e:b=s.heap.length
     .subst e;rw[hr.rel.gs.nol _ (jT (YJ _)).1 (V5 D9.2 _)]at hb;cases hb
     .rw[aa e];exact hb⟩
   obtain⟨HC,E5⟩:=P0 j1 (w.heap.size+1) BE QA;have AE:X.length=fh s.tmps.old:=by have h1:=hr.len;have h2:=hr.own;unfold TM.length at h1;unfold St.n at h2;omega
   have key:(callFunc g (x++[Value.func (.yield (w.heap.size+1)) #[] #[]]++y).toArray).run P ((w.alloc (.deferred (ZA []))).alloc (.loop o))=.ok (.enter g (x++[Value.func (.yield (w.heap.size+1)) #[] #[]]++y).toArray) ((w.alloc (.deferred (ZA []))).alloc (.loop o))/\
    Calls P g (x++[Value.func (.yield (w.heap.size+1)) #[] #[]]++y).toArray ((w.alloc (.deferred (ZA []))).alloc (.loop o)) fun e w'=>∃u,e=.returned u/\rangePost (Fw ZD) 0 P (w.heap.size+1) Q {a with defers:={target:=.collected w.heap.size,args:= #[]}::a.defers} (.returned u) w':=by
    refine(hcr ⟨ps,assign,body,fh s.tmps.old,s.n,cx.hints,cx.cuts⟩).call g args ⟨s.tmps,s.heap++[.loop ⟨.ready,ZD⟩]⟩ kw _ (fun u w'=>rangePost (Fw ZD) 0 P (w.heap.size+1) Q {a with defers:={target:=.collected w.heap.size,args:= #[]}::a.defers} (.returned u) w') ρ I n X _ j1 _ _ _ I0 h hg ⟨GG,hr.len,hr.own⟩ ⟨by exact ht.1,rf,[],X,rfl,by rw[Hn],by rw[Hn],by rw[Hn],by rw[Hn];exact hr.rel.size.trans hr.own.symm,by rw[Hn];rfl,AE⟩ HC E5 (fun v s' Ak ρ' I' j' w' u h' CC CN DZ B0 CG hvd CU=> ?_);split at h'<;>first|exact h'.elim|skip
    rename_i yy hyy;have hy:s'.fs.lp s.heap.length=ZA yy:=oI.2 hyy;obtain⟨rf',o',e1,e2,e3,e4,e5,e6⟩:=CU.rel.lpZ hy;cases e1;rw[hl]at e4;have GV:∀(hb:yy.st≠.busy),uQ (s'.heap.set s.heap.length .gone)=ZB->∃W4 j2,(Instr.endLoop (w.heap.size+1)).run P w'=.ok o'.pending W4/\At cx ρ' n X ⟨w0,w.heap.size::M0,ZB,ZD,HG,K8⟩ ⟨s'.tmps,s'.heap.set s.heap.length .gone⟩ j2 {a with defers:={target:=.collected w.heap.size,args:= #[]}::a.defers} W4:=by intro hb hn;refine⟨_,j'.setz rf.l ZD,run_endLoop e4 (by rw[e5.st];cases hs:yy.st<;>simp_all [LS.st]),⟨?_,CU.len,CU.own⟩⟩;rw[show(St.mk s'.tmps (s'.heap.set s.heap.length .gone)).fs=s'.fs.endl s.heap.length from ad1 hyy,<-hl];exact CU.rel.loopEnd hy (fun i yi h=>Uj hn i yi h) e3 _
    have out:∀sg:Option Sig,yy.pend=sg->yy.st≠.busy->uQ (s'.heap.set s.heap.length .gone)=ZB->((match sg with|none=>k .normal ⟨s'.tmps,s'.heap.set s.heap.length .gone⟩ Ak|some .normal=>.stuck 207|some sg=>k sg ⟨s'.tmps,s'.heap.set s.heap.length .gone⟩ Ak:Tr).holds sp G ρ' I')->
     rangePost (Fw ZD) 0 P (w.heap.size+1) Q {a with defers:={target:=.collected w.heap.size,args:= #[]}::a.defers} (.returned u) w':=by
     intro sg hsg hb hn hh;obtain⟨W4,j2,Be,He⟩:=GV hb hn;refine⟨_,_,Be,?_⟩;rw[e5.pend,hsg];rcases sg with _|(_|id|_)
     .exact hQ _ .normal _ Ak ρ' I' j2 _ _ (fun e=>by cases e) hh CC CN DZ B0 CG He
     .exact hh.elim
     .exact wpIn_exit (hQ _ (.exit id) _ Ak ρ' I' j2 _ _ (fun e=>by cases e) hh CC CN DZ B0 CG He)
     .exact wpIn_ret (hQ _ .ret _ Ak ρ' I' j2 _ _ (fun e=>by cases e) hh CC CN DZ B0 CG He)
    obtain⟨st,pend⟩:=yy;cases st with
    |busy=>exact h'.elim
    |ready=>
      dsimp only at h';split at h'
      next hn=>exact out pend rfl (by simp) hn h'
      .exact h'.elim
    |done=>
      dsimp only at h';split at h'
      next hn=>exact out pend rfl (by simp) hn h'
      .exact h'.elim
   obtain⟨hcf,PW⟩:=key;refine⟨w.heap.size+1,[{target:=.collected w.heap.size,args:= #[]}],(w.alloc (.deferred (ZA []))).alloc (.loop o),{target:=.fn (.func g) y.toArray,args:=x.toArray ++ #[.func (.yield (w.heap.size+1)) #[] #[]]},(w.alloc (.deferred (ZA []))).alloc (.loop o),g,(x++[Value.func (.yield (w.heap.size+1)) #[] #[]]++y).toArray,(w.alloc (.deferred (ZA []))).alloc (.loop o),?_,?_,fun _ _=>trivial,?_,RT,kJ.2 (PW.mono ?_)⟩
   .rw[ho];exact run_enterLoop_outer _ _ _ _ _
   .simp only[resolve,Ao,Deferred.ofValue,ZH,Sem.run_pure,Result.andThen_ok];simp[Act.eval]
   .have e:((x.toArray ++ #[Value.func (.yield (w.heap.size+1)) #[] #[]])++y.toArray)=(x++[Value.func (.yield (w.heap.size+1)) #[] #[]]++y).toArray:=by simp
    simp only[invoke,e];exact hcf
   .rintro e w' ⟨u,rfl,hk⟩;exact hk
 |_=>intro W0 s kw k Q ρ I j a w ht EY h;exact h.elim
end
def RL(cx:Cx)(s:St):ResultVar->Option (Bool×List C)
 |.tmp t=>match Ha s.n s.tmps (.tmp t)with
   |some (.one c)=>ZA (ZC,[c])
   |some (.agg cs)=>ZA (ZB,cs)
   |_=>ZD
 |.cell t ty=>match Ha s.n s.tmps (.tmp t),aj ty cx.ty with
   |some (.one (.ptr b o)),ZA i=>if i.agg then(Lr s.heap b o i.size).map (ZB,·)else(Jx s.heap b o).map (ZC,[·])
   |_,_=>ZD
def GN(cx:Cx)(s:St):List ResultVar->Option (List (Bool×List C))
 |[]=>ZA []
 |r::l=>match RL cx s r,GN cx s l with
   |some x,ZA xs=>ZA (x::xs)
   |_,_=>ZD
def Ot(vk:List VK)(heap:List Ob):CK->C->E->Option E
 |.int k,.int k' e,t=>if bB k k'&&e.rng vk k then ZA (.cons e t)else ZD
 |.bool,.bool e,t=>ZA (.j e t)
 |.fn g,.fn g',t=>if ZI g g' then ZA (.cons (.p 0) t)else ZD
 |.nf,.nf,t=>ZA (.cons (.p 0) t)
 |.sl ks ty,.sl id,t=>match HJ heap id with
   |some r=>if r.own&&(r.kd.fits r.ks&&(bZ r.ks ks&&ZI r.ty ty))then ZA (.N r.l t)else ZD
   |none=>ZD
 |.sl ks _,.nsl,t=>(match ks with |[]=>ZD|_::_=>ZA (.N .ln t))
 |_,_,_=>ZD
def oL(vk:List VK)(heap:List Ob):List CK->List C->E->Option E
 |[],[],t=>ZA t
 |k::ks,c::cs,t=>(oL vk heap ks cs t).bind (Ot vk heap k c)
 |_,_,_=>ZD
def Wk(heap:List Ob):CK->C->E->Option E
 |.int k,.int k' e,t=>if bB k k' then ZA (.cons e t)else ZD
 |.bool,.bool e,t=>ZA (.j e t)
 |.fn g,.fn g',t=>if ZI g g' then ZA (.cons (.p 0) t)else ZD
 |.nf,.nf,t=>ZA (.cons (.p 0) t)
 |.sl ks ty,.sl id,t=>match HJ heap id with
   |some r=>if r.own&&(r.kd.fits r.ks&&(bZ r.ks ks&&ZI r.ty ty))then ZA (.N r.l t)else ZD
   |none=>ZD
 |.sl ks _,.nsl,t=>(match ks with |[]=>ZD|_::_=>ZA (.N .ln t))
 |_,_,_=>ZD
def ami{heap:List Ob}{k:CK}{t e:E}(hc:c.rng vk=ZB)(h:Wk heap k c t=ZA e):Ot vk heap k c t=ZA e:=by
 unfold Wk at h;split at h
 .rename_i k1 k2 x;split at h
  next h1=>obtain rfl:=av h1;have h2:x.rng vk k1=ZB:=hc;simp[Ot,h1,h2];exact YL h
  .exact ST
 all_goals first|exact h|cases h
def RW(heap:List Ob):List CK->List C->E->Option E
 |[],[],t=>ZA t
 |k::ks,c::cs,t=>(RW heap ks cs t).bind (Wk heap k c)
 |_,_,_=>ZD
def xY{vk:List VK}{heap:List Ob}:∀{ks:List CK} {cs:List C} {t e:E},cs.all (C.rng vk)=ZB->RW heap ks cs t=ZA e->oL vk heap ks cs t=ZA e
 |[],[],_,_,_,h=>h
 |k::ks,c::cs,t,e,hr,h=>by simp only[List.all_cons,ne]at hr;simp only[RW,cW]at h;obtain⟨e1,h1,h2⟩:=h;simp only[oL,cW];exact⟨e1,xY hr.2 h1,ami hr.1 h2⟩
def Oq(vk:List VK)(heap:List Ob)(ks:List CK)(cs:List C)(t:E):Option E:=bif Fx vk cs vk 0 then RW heap ks cs t else ZD
def tf{heap:List Ob}{t e:E}(h:Oq vk heap ks cs t=ZA e):oL vk heap ks cs t=ZA e:=by
 unfold Oq at h;cases hr:Fx vk cs vk 0 with
 |false=>rw[hr]at h;cases h
 |true=>rw[hr]at h;exact xY (rngs_ok cs vk 0 rfl hr) h
def rm(vk:List VK)(heap:List Ob):List Sh->List (Bool×List C)->Option E
 |[],[]=>ZA .nil
 |.one k::ss,(ZC,[c])::l=>(rm vk heap ss l).bind (Oq vk heap [k] [c])
 |.agg ks::ss,(ZB,cs)::l=>(rm vk heap ss l).bind (Oq vk heap ks cs)
 |_,_=>ZD
def B9:List CK->List C->List (Option Nat)
 |.sl _ _::ks,.sl id::cs=>ZA id::B9 ks cs
 |.sl _ _::ks,_::cs=>ZD::B9 ks cs
 |_::ks,_::cs=>B9 ks cs
 |_,_=>[]
def F8:List Sh->List (Bool×List C)->List (Option Nat)
 |s::ss,(_,cs)::l=>B9 s.cks cs++F8 ss l
 |_,_=>[]
def oG:List (Option Nat)->Bool
 |[]=>ZB
 |none::l=>oG l
 |some a::l=>(l.all fun x=>match x with|some b=>!ZI a b|none=>ZB)&&oG l
def G9(heap:List Ob)(id:Nat):Bool:=match HJ heap id with
 |some r=>r.kd.isEv
 |none=>ZC
def Dg(heap:List Ob)(j:J):Option Nat->SV
 |some id=>if G9 heap id then(j.s id).getD nilSV else {(j.s id).getD nilSV with z:=[]}
 |none=>nilSV
def T1(heap:List Ob)(j:J)(id:Nat):(Dg heap j (ZA id)).v=((j.s id).getD nilSV).v:=by cases h:G9 heap id<;>simp only[Dg,h]<;>rfl
def Pc:List (Bool×List C)->V
 |[(ZB,cs)]=>.agg cs
 |[(ZC,[c])]=>.one c
 |xs=>.tup xs
def qX(dep:Nat):List (TT×Nat)->Option (TT×Nat)
 |[]=>ZD
 |(t,n)::l=>if ZI (fh l) dep then ZA (t,n)else qX dep l
def SA(tm:TM):List Nat->List V->Option TM
 |[],[]=>ZA tm
 |p::ps,v::vs=>if Nat.blt p tm.n then SA (tm.set p v) ps vs else ZD
 |_,_=>ZD
def NZ(cl:HK)(cx:Cx)(fuel:Nat)(r:RfS)(id:Nat)(args:List V)(s:St)(kw:Kw)(k:V->St->Kw->Tr):Tr:=
 match s.heap[id]?,qX r.dep s.tmps.old with
 |some (.loop y),ZA (t,n)=>
   if ZI n r.len&&(LS.same y.st .ready&&uQ (s.heap.set id .gone))then
    match SA ⟨t,n,(s.tmps.cur,s.tmps.n)::s.tmps.old⟩ r.ps.toList args with
    |some tm=>gI cl ZD cx fuel r.assign ⟨tm,s.heap⟩ kw fun sg s1 Bn=>match sg with
      |.normal=>(match s1.heap[id]? with
        |some (.loop y1)=>if LS.same y1.st .ready&&uQ (s1.heap.set id .gone)then
         gI cl ZD cx fuel r.body ⟨s1.tmps,s1.heap.set id (.loop ⟨.busy,y1.pend⟩)⟩ Bn fun sg s2 Dd=>match s2.heap[id]? with
          |some (.loop _)=>if(ZI s2.tmps.old.length (s.tmps.old.length+1)&&ZI s2.tmps.pop.n s.n)&&uQ (s2.heap.set id .gone)then(match sg with
           |.normal=>k (.one (.bool (.tt ZB))) ⟨s2.tmps.pop,s2.heap.set id (.loop ⟨.ready,ZD⟩)⟩ Dd
           |sg=>k (.one (.bool (.tt ZC))) ⟨s2.tmps.pop,s2.heap.set id (.loop ⟨.done,ZA sg⟩)⟩ Dd)else .stuck 210
          |_=>.stuck 211
          else .stuck 212
        |_=>.stuck 213)
      |_=>.stuck 214
    |none=>.stuck 215
   else .stuck 216
 |_,_=>.stuck 217
def Mw(fuel:Nat):Nat->Cx->Option RfS->HK
 |0,_,_,_,_,_,_,_=>.stuck 120
 |d+1,cx,ry,g,args,s,kw,k=>if Nat.blt g yB then(match aj g cx.fns with
   |none=>.stuck (200000+g)
   |some (fn,hints,cuts)=>match fn.body with
     |some c=>if fn.name== "runtime.NumGoroutine" then .stuck 121 else
       gI (Mw fuel d {cx with hints:=hints,cuts:=cuts} ry) ZD {cx with hints:=hints,cuts:=cuts} fuel c ⟨s.tmps.push args (args.length+(fn.ntmps-args.length)),s.heap⟩ kw fun sg s' Ak=>match sg with
        |.exit _=>.stuck 80
        |_=>match GN cx s' fn.results.toList with
          |some xs=>if ZI s'.tmps.old.length (s.tmps.old.length+1)&&ZI s'.tmps.pop.n s.n then k (Pc xs) ⟨s'.tmps.pop,s'.heap⟩ Ak else .stuck 129
          |none=>.stuck 81
     |none=>.stuck 122)
   else match ry with
    |some r=>NZ (Mw fuel d {cx with hints:=r.hints,cuts:=r.cuts} (ZA r)) {cx with hints:=r.hints,cuts:=r.cuts} fuel r (g-yB) args s kw k
    |none=>.stuck 209
def MO(cx:Cx)(fuel:Nat)(fn:Func)(args:List V)(heap:List Ob)(kw:Kw):Tr:=
 match fn.body with
 |some c=>gI (Mw fuel 12 cx ZD) (ZA fun r=>Mw fuel 12 cx (ZA r)) cx fuel c ⟨TM.push args (args.length+(fn.ntmps-args.length)) ⟨.u (.one .undef),0,[]⟩,heap⟩ kw fun sg s kw=>match sg with
   |.exit _=>.stuck 80
   |_=>match GN cx s fn.results.toList with
     |some xs=>match rm kw.vk s.heap cx.res xs with
       |some e=>if oG (F8 cx.res xs)then .u e else .stuck 83
       |none=>.stuck 84
     |none=>.stuck 81
 |none=>.stuck 82
section
variable {P:Program}{sp:Spec}{ρ:Env}{G:Env->E->Prop}{I:Nat->List Dt->Prop}{cx:Cx}{n:Nat}{X:List Value}{W0:Wb}
def xx:∀{l:List (Option Nat)},oG l=ZB->∀(i i':Nat) b,l[i]? =ZA (ZA b)->l[i']? =ZA (ZA b)->i=i'
 |[],_,i,i',b,h,_=>by simp at h
 |x::l,h,i,i',b,hi,A6=>by
   have key:oG l=ZB/\∀b,x=ZA b->∀i:Nat,l[i]? ≠ZA (ZA b):=by
    cases x with
    |none=>exact⟨h,fun b hb=>by cases hb⟩
    |some a=>simp only[oG,ne]at h;refine⟨h.2,fun b hb i hi=> ?_⟩;cases hb;have:=Co.1 h.1 _ (ew hi);simp at this
   cases i with
   |zero=>
     simp at hi;cases i' with
     |zero=>rfl
     |succ i'=>exact ak (by simpa using A6) (key.2 b hi i')
   |succ i=>
     cases i' with
     |zero=>simp at A6;exact ak XM (key.2 b A6 i)
     |succ i'=>rw[xx key.1 i i' b XM (by simpa using A6)]
def alb(h:Rel ρ n X W0 cx.fbs s.fs j a w):∀(m o:Nat),Fb ρ j w (Jx s.heap) (ed b o m):=by intro m o p hp c hc;rw[<-zP]at hc;obtain⟨k',v,h1,h2,h3,_⟩:=pt h (b:=p.1) (o:=p.2) (c:=c) hc;exact⟨k',v,h1,h2,h3⟩
def kh{j:J}:∀{cs:List (Bool×List C)} {vs:List Value},ce ρ j cs=ZA vs->vs.length=cs.length
 |[],vs,h=>by cases h;rfl
 |c::cs,vs,h=>by
   simp only[ce]at h;cases hc:Bt ρ j c with
   |none=>rw[hc]at h;cases h
   |some v=>
     cases hl:ce ρ j cs with
     |none=>rw[hc,hl]at h;cases h
     |some l=>rw[hc,hl]at h;cases h;simp[kh hl]
def mA(tmps:Array Value):ResultVar->Sem Value
 |.tmp t=>pure (tmps.getD t undef)
 |.cell a t=>do loadVar t (<-asAddr (tmps.getD a undef))
def adG(fn:Func)(tmps:Array Value):results fn tmps=(do let vs <-fn.results.mapM (mA tmps);pure (if h:vs.size=1 then vs[0]else .tuple vs)):=by unfold results;congr 2
def ahp(hT:∀t i,(t,i)∈cx.ty->TIok P t i)(h:At cx ρ n X W0 s j a w){r:ResultVar}{x:Bool×List C}(hx:RL cx s r=ZA x):
  ∃v,Bt ρ j x=ZA v/\(mA a.tmps r).run P w=.ok v w:=by
 have N5:∀t u,Ha s.n s.tmps (.tmp t)=ZA u->u.den ρ j=ZA (a.tmps.getD t undef):=fun t u hu=>h.ev (x:=.tmp t) hu;cases r with
 |tmp t=>
   simp only[RL]at hx;split at hx
   next c hc=>cases hx;exact⟨_,N5 t _ hc,by simp[mA]⟩
   next cs hc=>cases hx;exact⟨_,N5 t _ hc,by simp[mA]⟩
   .cases hx
 |cell t ty=>
   simp only[RL]at hx;split at hx
   .rename_i b o i hb hi;obtain⟨kk,hk,hp⟩:=kU (N5 t _ hb);have ht:=hT _ _ (af hi);split at hx
    next Bh=>rw[Av]at hx;obtain⟨cs,CJ,rfl⟩:=hx;obtain⟨vs,h1,h2⟩:=ey (P:=P) hk i.size o cs (ahg _ _ _ _ CJ) w (alb h.rel i.size o) ⟨kk,o,ZD⟩ 0 #[] (fun m=>by rw[bw];simp);refine⟨.agg vs.toArray,by simp[Bt,h1],?_⟩;simp[mA,hp,asAddr,ZH,loadVar,ht.agg,Bh,ht.size,loadCells,h2]
    next Bh=>rw[Av]at hx;obtain⟨c,hc,rfl⟩:=hx;rw[<-zP]at hc;obtain⟨k',v,h1,h2,h3,_⟩:=pt h.rel (b:=b) (o:=o) (c:=c) hc;rw[hk]at h1;cases h1;have C0:i.agg=ZC:=Yl;refine⟨v,h2,?_⟩;simp[mA,hp,asAddr,ZH,loadVar,ht.agg,C0,load,Sem.run,h3]
   .cases hx
def ahq(hT:∀t i,(t,i)∈cx.ty->TIok P t i){j:J}{a:Act}{w:World}{s:St}(h:At cx ρ n X W0 s j a w):∀(l:List ResultVar) (xs:List (Bool×List C)),GN cx s l=ZA xs->
  ∃vs,ce ρ j xs=ZA vs/\vs.length=l.length/\(l.mapM (mA a.tmps)).run P w=.ok vs w
 |[],xs,hx=>by cases hx;exact⟨[],rfl,rfl,by simp⟩
 |r::l,xs,hx=>by
   simp only[GN]at hx;split at hx
   next x ys h1 h2=>cases hx;obtain⟨v,h3,h4⟩:=ahp hT h h1;obtain⟨vs,h5,h6,h7⟩:=ahq hT h l ys h2;refine⟨v::vs,by simp[ce,h3,h5],by simp[h6],?_⟩;rw[List.mapM_cons];simp only[ZH];rw[h4];simp only[Result.andThen_ok,h7];simp
   .cases hx
def sB(hT:∀t i,(t,i)∈cx.ty->TIok P t i)(h:At cx ρ n X W0 s j a w){xs:List (Bool×List C)}(hx:GN cx s fn.results.toList=ZA xs):
  ∃vs,ce ρ j xs=ZA vs/\(results fn a.tmps).run P w=.ok (if h:vs.toArray.size=1 then vs.toArray[0]else .tuple vs.toArray) w:=by
 obtain⟨vs,h1,h2,h3⟩:=ahq hT h _ xs hx;refine⟨vs,h1,?_⟩;rw[adG,ZH,Array.mapM_eq_mapM_toList];rw[show(Functor.map List.toArray (List.mapM (mA a.tmps) fn.results.toList):Sem (Array Value))=(do let l <-List.mapM (mA a.tmps) fn.results.toList;pure l.toArray)from rfl];simp[ZH,h3]
def fq{α:Type}{ds:List α}{x:α}{r:List α}(h:ds.drop n=x::r):ds[n]? =ZA x/\ds.drop (n+1)=r:=by
 have h1:ds[n]? =ZA x:=by have:=congrArg (·[0]?) h;simpa using this
 refine⟨h1,?_⟩;have:=congrArg List.tail h;simpa using this
structure Res1(hp:List Ob)(ρ:Env)(j:J)(w0 w:World)(ks:List CK)(FG:List (Option Nat))(vs:List Value)(e t:E):Prop where
 len:FG.length=(ks.filter CK.isSl).length
 rng:ib ks (e.D ρ)
 at':∀ds n,ds.drop n=e.D ρ->ds.drop (n+ks.length)=t.D ρ/\∀(ρ':Env) v0,eqs ρ' ds v0 n ks->
  (∀id (j':J),(∀(i:Nat) u,FG[i]? =ZA u->j'.s (id+i)=ZA (Dg hp j u))->Ad ρ' j' (aL v0 n id ks)=ZA vs)/\
  (∀(i:Nat) u r,FG[i]? =ZA u->(bE v0 n ks)[i]? =ZA r->RowOk ρ' w0.heap.size w (Dg hp j u) r)
def ar3{hp:List Ob}{ρ:Env}{t:E}:Res1 hp ρ j w0 w [] [] [] t t:=⟨rfl,trivial,fun ds n h=>⟨by simpa using h,fun ρ' v0 he=>⟨fun id j' h=>rfl,fun i u r h=>by simp at h⟩⟩⟩
def PB{x:Int}(h:ds[n]? =ZA (.z x)):dI ds n=x:=by simp[dI,h]
def SS{x:LL}(h:ds[n]? =ZA (.l x)):dL ds n=x:=by simp[dL,h]
def oP(b:Bool):(Ay b==1)=b:=by cases b<;>rfl
def amh(hv:Vk ρ vk)(h:Rel ρ n X W0 cx.fbs s.fs j a w){k:CK}{t e:E}(he:Ot vk s.heap k c t=ZA e)(hd:c.den ρ j=ZA v){t0:E}(hr:Res1 s.heap ρ j W0.w w ks FG vs t t0)(hids:FG=B9 ks cs):
  Res1 s.heap ρ j W0.w w (k::ks) (B9 (k::ks) (c::cs)) (v::vs) e t0:=by
 subst hids;have EI:∀m:Nat,m+1+ks.length=m+(k::ks).length:=fun m=>by simp;omega
 unfold Ot at he;split at he
 .rename_i k k' x;split at he
  next hk=>cases he;simp only[ne]at hk;have:=av hk.1;subst this;cases hd;refine⟨hr.len,⟨E.rng_ok hv x hk.2,hr.rng⟩,fun ds n' h1=> ?_⟩;obtain⟨h2,h3⟩:=fq h1;obtain⟨h4,h5⟩:=hr.at' ds (n'+1) h3;refine⟨by rw[<-EI];exact h4,fun ρ' v0 DF=> ?_⟩;obtain⟨h6,h7⟩:=h5 ρ' v0 DF.2;refine⟨fun id j' hj=> ?_,h7⟩;simp only[aL,Ad,C.den,E.I,h6 id j' hj,DF.1,PB h2]
  .cases he
 .rename_i x;cases he;cases hd;refine⟨hr.len,hr.rng,fun ds n' h1=> ?_⟩;obtain⟨h2,h3⟩:=fq h1;obtain⟨h4,h5⟩:=hr.at' ds (n'+1) h3;refine⟨by rw[<-EI];exact h4,fun ρ' v0 DF=> ?_⟩;obtain⟨h6,h7⟩:=h5 ρ' v0 DF.2;refine⟨fun id j' hj=> ?_,h7⟩;have h8:ρ'.b (v0+n')=x.B ρ:=by rw[DF.1];simp only[dB,PB h2,oP]
  simp only[aL,Ad,C.den,E.B,h6 id j' hj,h8]
 .rename_i g g';split at he
  next hg=>cases he;have:=Ah hg;subst this;cases hd;refine⟨hr.len,hr.rng,fun ds n' h1=> ?_⟩;obtain⟨h2,h3⟩:=fq h1;obtain⟨h4,h5⟩:=hr.at' ds (n'+1) h3;refine⟨by rw[<-EI];exact h4,fun ρ' v0 DF=> ?_⟩;obtain⟨h6,h7⟩:=h5 ρ' v0 DF;refine⟨fun id j' hj=> ?_,h7⟩;simp only[aL,Ad,C.den,h6 id j' hj]
  .cases he
 .cases he;cases hd;refine⟨hr.len,hr.rng,fun ds n' h1=> ?_⟩;obtain⟨h2,h3⟩:=fq h1;obtain⟨h4,h5⟩:=hr.at' ds (n'+1) h3;refine⟨by rw[<-EI];exact h4,fun ρ' v0 DF=> ?_⟩;obtain⟨h6,h7⟩:=h5 ρ' v0 DF;refine⟨fun id j' hj=> ?_,h7⟩;simp only[aL,Ad,C.den,h6 id j' hj]
 .rename_i ks0 ty GH;split at he
  .rename_i r EZ;split at he
   .rename_i hq;cases he;simp only[ne]at hq;obtain⟨ho,E0,hk,ht⟩:=hq;have Qq:=EZ;rw[<-iS]at EZ;obtain⟨sv,h1,h2⟩:=h.row GH r (fC EZ);simp only[C.den,h1,ZK,aU]at hd;subst hd;have e1:=bQ hk;have e2:=Ah ht;have e3:=RK.fits_eq E0;subst e1 e2;have IF:(Dg s.heap j (ZA GH)).v=sv.v:=by rw[T1,h1];rfl
    refine⟨by simp[B9,List.filter,CK.isSl,hr.len],⟨h2.rows,hr.rng⟩,fun ds n' h3=> ?_⟩;obtain⟨h4,h5⟩:=fq h3;obtain⟨h6,h7⟩:=hr.at' ds (n'+1) h5;refine⟨by rw[<-EI];exact h6,fun ρ' v0 DF=> ?_⟩;obtain⟨h8,h9⟩:=h7 ρ' v0 DF.2;refine⟨fun id j' hj=> ?_,fun i u q hi Gg=> ?_⟩
    .have HU:=hj 0 (ZA GH) rfl;rw[ZP]at HU;have Gr:=h8 (id+1) j' (fun i u hi=>by
      have:=hj (i+1) u Yf;rwa [show id+(i+1)=id+1+i by omega]at this)
     simp only[aL,Ad,C.den,HU,ZK,Gr,IF]
    .cases i with
     |zero=>
       simp only[B9,cH,aU]at hi;simp only[bE,cH,aU]at Gg;subst hi Gg;have hR:(E.g (v0+n')).R ρ'=r.l.R ρ:=by simp only[E.R];rw[DF.1,SS h4]
       rcases cK r.ks with⟨_,g2⟩|⟨_,g2⟩
       .have hea:G9 s.heap GH=ZB:=by simp[G9,Qq,e3,g2,RK.isEv]
        have Ao:Dg s.heap j (ZA GH)=sv:=by simp[Dg,hea,h1]
        rw[Ao];exact RowOk.swap (q:=r) rfl rfl ho.symm hR (by rw[e3,g2];trivial) h2
       .have hea:G9 s.heap GH=ZC:=by simp[G9,Qq,e3,g2,RK.isEv]
        have Ao:Dg s.heap j (ZA GH)={sv with z:=[]}:=by simp[Dg,hea,h1]
        rw[Ao];have h2:=h2.1 (e3.trans g2);refine RowOk.mk_own g2 (by rw[hR];exact h2.n) (by rw[hR];exact h2.rows) h2.pos ?_;rw[hR];exact h2.own ho
     |succ i=>exact h9 i u q Yf (by simpa[bE]using Gg)
   .cases he
  .cases he
 .rename_i ks0 ty;split at he
  .cases he
  .rename_i k0 ks1;cases he;cases hd;have AH:RowsIn (k0::ks1) []:=⟨fun r hr=>(by cases hr),by simp⟩
   refine⟨by simp[B9,List.filter,CK.isSl,hr.len],⟨AH,hr.rng⟩,fun ds n' h3=> ?_⟩;obtain⟨h4,h5⟩:=fq h3;obtain⟨h6,h7⟩:=hr.at' ds (n'+1) h5;refine⟨by rw[<-EI];exact h6,fun ρ' v0 DF=> ?_⟩;obtain⟨h8,h9⟩:=h7 ρ' v0 DF.2;refine⟨fun id j' hj=> ?_,fun i u q hi Gg=> ?_⟩
   .have HU:=hj 0 ZD rfl;rw[ZP]at HU;have Gr:=h8 (id+1) j' (fun i u hi=>by
     have:=hj (i+1) u Yf;rwa [show id+(i+1)=id+1+i by omega]at this)
    simp only[aL,Ad,C.den,HU,ZK,Gr];rfl
   .cases i with
    |zero=>
      simp only[B9,cH,aU]at hi;simp only[bE,cH,aU]at Gg;subst hi Gg;have hR:(E.g (v0+n')).R ρ'=[]:=by simp only[E.R];rw[DF.1,SS h4];rfl
      rcases cK (k0::ks1)with⟨g1,g2⟩|⟨_,g2⟩
      .exact EvOk.row ⟨g1,by rw[hR];rfl,by rw[hR];exact AH,fun k hk=>ak hk lE,fun _ p hp=>Yi,[],by rw[hR];rfl,fun _=>by rw[hR];exact World.ownsRow_nil _ _ _ _,by rw[hR];exact RdRow.nil,fun i row x hr=>by rw[hR]at hr;simp at hr⟩ g2
      .exact RowOk.mk_own g2 (by rw[hR];rfl) (by rw[hR];exact AH) (by simp) (by rw[hR];exact World.ownsRow_nil _ _ _ _)
    |succ i=>exact h9 i u q Yf (by simpa[bE]using Gg)
 .cases he
def xX{vk:List VK}(hv:Vk ρ vk){s:St}{j:J}{a:Act}{w:World}(h:Rel ρ n X W0 cx.fbs s.fs j a w):∀{ks:List CK} {cs:List C} {t e:E},oL vk s.heap ks cs t=ZA e->∀{vs:List Value},Ad ρ j cs=ZA vs->Res1 s.heap ρ j W0.w w ks (B9 ks cs) vs e t
 |[],[],t,e,he,vs,hd=>by cases he;cases hd;exact ar3
 |k::ks,c::cs,t,e,he,vs,hd=>by
   simp only[oL,cW]at he;obtain⟨e',h1,h2⟩:=he;simp only[Ad]at hd;cases hc:c.den ρ j with
   |none=>rw[hc]at hd;cases hd
   |some v=>
     cases hl:Ad ρ j cs with
     |none=>rw[hc,hl]at hd;cases hd
     |some l=>rw[hc,hl]at hd;cases hd;exact amh hv h h2 hc (xX hv h h1 hl) rfl
def acM(hv:Vk ρ vk)(h:Rel ρ n X W0 cx.fbs s.fs j a w){t e:E}(he:Oq vk s.heap ks cs t=ZA e)(hd:Ad ρ j cs=ZA vs):Res1 s.heap ρ j W0.w w ks (B9 ks cs) vs e t:=xX hv h (tf he) hd
structure Res2(hp:List Ob)(ρ:Env)(j:J)(w0 w:World)(ss:List Sh)(FG:List (Option Nat))(vs:List Value)(e:E):Prop where
 len:FG.length=((ss.flatMap (·.cks)).filter CK.isSl).length
 rng:ib (ss.flatMap (·.cks)) (e.D ρ)
 at':∀ds n,ds.drop n=e.D ρ->∀(ρ':Env) v0,eqs ρ' ds v0 n (ss.flatMap (·.cks))->
  (∀id (j':J),(∀(i:Nat) u,FG[i]? =ZA u->j'.s (id+i)=ZA (Dg hp j u))->ce ρ' j' (bM v0 n id ss)=ZA vs)/\
  (∀(i:Nat) u r,FG[i]? =ZA u->(bE v0 n (ss.flatMap (·.cks)))[i]? =ZA r->RowOk ρ' w0.heap.size w (Dg hp j u) r)
def iZ{ρ:Env}{ds:List Dt}{v0:Nat}:∀(ks ks':List CK) (n:Nat),eqs ρ ds v0 n (ks++ks')->eqs ρ ds v0 n ks/\eqs ρ ds v0 (n+ks.length) ks'
 |[],ks',n,h=>⟨trivial,h⟩
 |k::ks,ks',n,h=>by
   have EI:n+1+ks.length=n+(k::ks).length:=Xz;cases k
   case int=>exact⟨⟨h.1,(iZ ks ks' (n+1) h.2).1⟩,by rw[<-EI];exact(iZ ks ks' (n+1) h.2).2⟩
   case bool=>exact⟨⟨h.1,(iZ ks ks' (n+1) h.2).1⟩,by rw[<-EI];exact(iZ ks ks' (n+1) h.2).2⟩
   case sl=>exact⟨⟨h.1,(iZ ks ks' (n+1) h.2).1⟩,by rw[<-EI];exact(iZ ks ks' (n+1) h.2).2⟩
   all_goals exact⟨(iZ ks ks' (n+1) h).1,by rw[<-EI];exact(iZ ks ks' (n+1) h).2⟩
def mB:∀{ks ks':List CK} {ds:List Dt},ib ks ds->ib ks' (ds.drop ks.length)->ib (ks++ks') ds
 |[],ks',ds,_,h=>by simpa using h
 |k::ks,ks',ds,h,h'=>by
   cases ds with
   |nil=>cases k<;>exact h.elim
   |cons d ds=>
     cases k
     case int=>cases d<;>first|exact⟨h.1,mB h.2 h'⟩|exact h.elim
     case sl=>cases d<;>first|exact⟨h.1,mB h.2 h'⟩|exact h.elim
     all_goals exact mB (ks:=ks) (ks':=ks') (ds:=ds) h h'
def qx{v0:Nat}:∀(ks ks':List CK) (n:Nat),bE v0 n (ks++ks')=bE v0 n ks++bE v0 (n+ks.length) ks'
 |[],ks',n=>rfl
 |k::ks,ks',n=>by have EI:n+1+ks.length=n+(k::ks).length:=Xz;cases k<;>simp only[List.cons_append,bE,qx ks ks' (n+1),EI]
def iT{v0:Nat}:∀(ks:List CK) (n:Nat),(bE v0 n ks).length=(ks.filter CK.isSl).length
 |[],n=>rfl
 |k::ks,n=>by cases k<;>simp[bE,List.filter,CK.isSl,iT ks (n+1)]
def Res2.cons{hp:List Ob}{k:Sh}{ss:List Sh}{QB:List (Option Nat)}{us:List Value}{e t:E}(h1:Res1 hp ρ j w0 w k.cks FG us e t)(h2:Res2 hp ρ j w0 w ss QB vs t)(hq:∀v0 n id,∃p,bM v0 n id (k::ss)=p::bM v0 (n+k.cks.length) (id+(k.cks.filter CK.isSl).length) ss/\∀(ρ':Env) (j':J),Ad ρ' j' (aL v0 n id k.cks)=ZA us->Bt ρ' j' p=ZA v):Res2 hp ρ j w0 w (k::ss) (FG++QB) (v::vs) e:=by
 refine⟨by rw[ZO,List.filter_append,cQ,cQ,h1.len,h2.len],?_,fun ds n' hd ρ' v0 he=> ?_⟩
 .rw[ZO];have h3:=(h1.at' (e.D ρ) 0 rfl).1;rw[be]at h3;exact mB h1.rng (by rw[h3];exact h2.rng)
 .rw[ZO]at he;obtain⟨e1,e2⟩:=iZ _ _ _ he;obtain⟨d1,d2⟩:=h1.at' ds n' hd;obtain⟨a1,a2⟩:=d2 ρ' v0 e1;obtain⟨b1,b2⟩:=h2.at' ds (n'+k.cks.length) d1 ρ' v0 e2;refine⟨fun id j' hj=> ?_,fun i u r hi hr=> ?_⟩
  .obtain⟨p,p1,p2⟩:=hq v0 n' id;rw[p1];have q1:=p2 ρ' j' (a1 id j' (fun i u hi=>hj i u (by
    rw[AW (bX.1 hi).1];exact hi)))
   have q2:=b1 (id+(k.cks.filter CK.isSl).length) j' (fun i u hi=>by
    have:=hj (FG.length+i) u (by rw[Bc Fn,Nat.add_sub_cancel_left];exact hi);rw[h1.len]at this;rwa [ZU])
   simp only[ce,q1,q2]
  .rw[ZO,qx]at hr;rcases bn i FG.length with Ap|Dp
   .rw[AW Ap]at hi;rw[AW (by rw[iT,<-h1.len];exact Ap)]at hr;exact a2 i u r hi hr
   .rw[Bc Dp]at hi;rw[Bc (by rw[iT,<-h1.len];exact Dp),iT,<-h1.len]at hr;exact b2 _ u r hi hr
def vo{vk:List VK}(hv:Vk ρ vk){s:St}{j:J}{a:Act}{w:World}(h:Rel ρ n X W0 cx.fbs s.fs j a w):∀{ss:List Sh} {xs:List (Bool×List C)} {e:E},rm vk s.heap ss xs=ZA e->∀{vs:List Value},ce ρ j xs=ZA vs->Res2 s.heap ρ j W0.w w ss (F8 ss xs) vs e
 |ss,xs,e,he,vs,hd=>by
   unfold rm at he;split at he
   .cases he;cases hd;exact⟨rfl,trivial,fun ds n h ρ' v0 he=>⟨fun id j' h=>rfl,fun i u r h=>by simp[F8]at h⟩⟩
   .rename_i k ss c l;rw[cW]at he;obtain⟨e',h1,h2⟩:=he;simp only[ce]at hd;cases hc:Bt ρ j (ZC,[c])with
    |none=>rw[hc]at hd;cases hd
    |some v=>
      cases hl:ce ρ j l with
      |none=>rw[hc,hl]at hd;cases hd
      |some us=>
        rw[hc,hl]at hd;cases hd;have FQ:c.den ρ j=ZA v:=hc;refine Res2.cons (k:=.one k) (acM hv h h2 (vs:=[v]) (by simp[Ad,FQ])) (vo hv h h1 hl) (fun v0 n id=> ?_);refine⟨(ZC,aL v0 n id [k]),?_,fun ρ' j' hh=> ?_⟩
        .simp only[bM,Sh.cks,List.length_singleton];congr 2;cases k<;>simp[List.filter,CK.isSl]
        .simp only[Sh.cks]at hh;have:∃c',aL v0 n id [k]=[c']:=by cases k<;>exact⟨_,rfl⟩
         obtain⟨c',hc2⟩:=this;rw[hc2]at hh ⊢;simp only[Ad]at hh;simp only[Bt];cases hx:c'.den ρ' j' with
         |none=>rw[hx]at hh;cases hh
         |some y=>rw[hx]at hh;simpa using hh
   .rename_i ks ss cs l;rw[cW]at he;obtain⟨e',h1,h2⟩:=he;simp only[ce]at hd;cases hc:Bt ρ j (ZB,cs)with
    |none=>rw[hc]at hd;cases hd
    |some v=>
      cases hl:ce ρ j l with
      |none=>rw[hc,hl]at hd;cases hd
      |some us=>rw[hc,hl]at hd;cases hd;simp only[Bt,Av]at hc;obtain⟨ws,hws,rfl⟩:=hc;refine Res2.cons (k:=.agg ks) (acM hv h h2 hws) (vo hv h h1 hl) (fun v0 n id=> ?_);exact⟨(ZB,aL v0 n id ks),rfl,fun ρ' j' hh=>by simp[Bt,Sh.cks]at hh ⊢;exact hh⟩
   .cases he
def aho{ρ:Env}{res:List Sh}{nid:Nat}(ht:ZI res.length 1 = !tup)(hl:vs.length=res.length)(h:ce ρ j (bM v0 0 nid res)=ZA vs):
  (gN res tup v0 nid).den ρ j=ZA (if h:vs.toArray.size=1 then vs.toArray[0]else .tuple vs.toArray):=by
 cases tup with
 |true=>
   have Bg:¬vs.length=1:=fun e=>by rw[hl]at e;simp[e]at ht
   simp[gN,V.den,h,Bg]
 |false=>
   have h1:res.length=1:=Ah (by simpa using ht)
   match res,vs,h1,hl,h with
   |[r],[v],_,_,h=>
     unfold gN;rw[aa (by simp)];cases r with
     |one k=>
       have:∃c',aL v0 0 nid [k]=[c']:=by cases k<;>exact⟨_,rfl⟩
       obtain⟨c',hc⟩:=this;simp only[bM,hc,ce,Bt]at h ⊢;cases hx:c'.den ρ j with
       |none=>rw[hx]at h;cases h
       |some y=>rw[hx]at h;cases h;simpa[V.den]using hx
     |agg ks=>
       simp only[bM,ce,Bt]at h ⊢;cases hx:Ad ρ j (aL v0 0 nid ks)with
       |none=>rw[hx]at h;cases h
       |some y=>rw[hx]at h;cases h;simp[V.den,hx]
     |ptr ks=>simp only[bM,ce,Bt,Ad,C.den]at h ⊢;cases h;simp[V.den,Ad,C.den]
def Res2.ret{hp:List Ob}{ss:List Sh}{e:E}(h:Res2 hp ρ j w0 w ss FG vs e)(ht:ZI ss.length 1 = !tup)(hl:vs.length=ss.length)(hx:Ext w0 w)(hd:∀(i i':Nat) a b k,FG[i]? =ZA a->FG[i']? =ZA b->(Dg hp j a).v.ownBlock=ZA k->(Dg hp j b).v.ownBlock=ZA k->i=i')(hz:∀a∈FG,NewZ w0 w (FG.map (Dg hp j)) (Dg hp j a)):RetOk ss tup w0 w (e.D ρ) (if h:vs.toArray.size=1 then vs.toArray[0]else .tuple vs.toArray):=by
 have LD:=fun ρ' v0 he=>h.at' (e.D ρ) 0 rfl ρ' v0 he;refine⟨hx,h.rng,FG.map (Dg hp j),by rw[List.length_map,h.len],fun ρ' v0 nid j' he hs=> ?_,fun ρ' v0 he i u r hu hr=> ?_,fun i i' u u' k hu Ib hk BZ=> ?_,fun u hu=> ?_⟩
 .exact aho ht hl ((LD ρ' v0 he).1 nid j' (fun i u hi=>hs i _ (by rw[iO,hi];rfl)))
 .rw[iO,Av]at hu;obtain⟨a,ha,rfl⟩:=hu;exact(LD ρ' v0 he).2 i a r ha hr
 .rw[iO,Av]at hu Ib;obtain⟨a,ha,rfl⟩:=hu;obtain⟨b,hb,rfl⟩:=Ib;exact hd i i' a b k ha hb hk BZ
 .obtain⟨a,ha,rfl⟩:=List.mem_map.1 hu;exact hz a ha
def S3(w:World)(k:Nat):Option Obj:=match w.heap[k]? with
 |some o=>if B6 o then ZA o else ZD
 |none=>ZD
def vx{o:Obj}:S3 w k=ZA o↔w.heap[k]? =ZA o/\B6 o=ZB:=by
 unfold S3;cases h:w.heap[k]? with
 |none=>simp
 |some o'=>
   cases hc:B6 o' with
   |true=>simp[hc];intro e;rw[<-e];exact hc
   |false=>simp[hc];intro e;rw[<-e];exact hc
structure Start(cx:Cx)(ρ:Env)(heap:List Ob)(j:J)(w:World):Prop where
 row:∀(b:Nat) ob,heap[b]? =ZA ob->∃r s,ob=.row r/\r.own=ZC/\j.s b=ZA s/\RowOk ρ w.heap.size w s r
 nos:∀b,heap.length<=b->j.s b=ZD
 nob:∀b,j.b b=ZD
 gh:j.g=⟨fun _=>ZD,S3 w⟩
 zz:∀b s,j.s b=ZA s->∀p∈s.z,w.heap[p.1]? =ZA p.2/\B6 p.2=ZB
 fb:∀b cs,cx.fbs b=ZA cs->∃k vs,j.f b=ZA k/\k<w.heap.size/\Ad ρ j cs=ZA vs/\∀(o:Nat) v,vs[o]? =ZA v->jI cs o=ZB->w.cell? ⟨k,o,ZD⟩=ZA v
def xu{vk:List VK}{heap:List Ob}:∀{ks:List CK} {cs:List C} {t e:E},oL vk heap ks cs t=ZA e->∀(i id:Nat),(B9 ks cs)[i]? =ZA (ZA id)->∃r,HJ heap id=ZA r/\r.own=ZB
 |[],[],t,e,_,i,id,hi=>by simp[B9]at hi
 |k::ks,c::cs,t,e,he,i,id,hi=>by
   simp only[oL,cW]at he;obtain⟨e',h1,h2⟩:=he;have ih:=xu h1;unfold Ot at h2;split at h2
   .exact ih i id hi
   .exact ih i id hi
   .exact ih i id hi
   .exact ih i id hi
   .rename_i GH;split at h2
    .rename_i r hr;split at h2
     .rename_i hq;simp only[ne]at hq;cases i with
      |zero=>simp only[B9,cH,aU]at hi;subst hi;exact⟨r,hr,hq.1⟩
      |succ i=>exact ih i id Yf
     .exact XO
    .exact XO
   .cases i with
    |zero=>simp[B9]at hi
    |succ i=>exact ih i id Yf
   .exact XO
def ab8{heap:List Ob}{t e:E}(he:Oq vk heap ks cs t=ZA e):∀(i id:Nat),(B9 ks cs)[i]? =ZA (ZA id)->∃r,HJ heap id=ZA r/\r.own=ZB:=xu (tf he)
def kr{vk:List VK}{heap:List Ob}:∀{ss:List Sh} {xs:List (Bool×List C)} {e:E},rm vk heap ss xs=ZA e->∀(i id:Nat),(F8 ss xs)[i]? =ZA (ZA id)->∃r,HJ heap id=ZA r/\r.own=ZB
 |ss,xs,e,he,i,id,hi=>by
   unfold rm at he;split at he
   .simp[F8]at hi
   .rename_i k ss c l;rw[cW]at he;obtain⟨e',h1,h2⟩:=he;have A6:(B9 [k] [c]++F8 ss l)[i]? =ZA (ZA id):=hi;rcases bn i (B9 [k] [c]).length with Ap|Dp
    .rw[AW Ap]at A6;exact ab8 h2 i id A6
    .rw[Bc Dp]at A6;exact kr h1 _ id A6
   .rename_i ks ss cs l;rw[cW]at he;obtain⟨e',h1,h2⟩:=he;have A6:(B9 ks cs++F8 ss l)[i]? =ZA (ZA id):=hi;rcases bn i (B9 ks cs).length with Ap|Dp
    .rw[AW Ap]at A6;exact ab8 h2 i id A6
    .rw[Bc Dp]at A6;exact kr h1 _ id A6
   .cases he
def rk{vk:List VK}{heap:List Ob}:∀{ss:List Sh} {xs:List (Bool×List C)} {e:E},rm vk heap ss xs=ZA e->xs.length=ss.length
 |ss,xs,e,he=>by
   unfold rm at he;split at he
   .rfl
   .rw[cW]at he;obtain⟨e',h1,_⟩:=he;simp[rk h1]
   .rw[cW]at he;obtain⟨e',h1,_⟩:=he;simp[rk h1]
   .cases he
def ez{f:FuncId}(hf:P.funcs[f]? =ZA fn)(Hk:(fn.name== "runtime.NumGoroutine")=ZC)(hb:fn.body.isNone=ZC)(args:Array Value)(w:World):(callFunc f args).run P w=.ok (.enter f args) w:=by
 have h1:fn.name≠ "runtime.NumGoroutine" :=by simpa using Hk
 cases hc:fn.body with
 |none=>rw[hc]at hb;cases hb
 |some c=>simp[callFunc,hf,h1,hc,program,ZH,Sem.run]
def aeZ{xs:List (Bool×List C)}(h:ce ρ j xs=ZA vs):(Pc xs).den ρ j=ZA (if h:vs.toArray.size=1 then vs.toArray[0]else .tuple vs.toArray):=by
 have tup:xs.length≠1->(V.tup xs).den ρ j=ZA (if h:vs.toArray.size=1 then vs.toArray[0]else .tuple vs.toArray):=fun hn=>by have hl:=kh h;rw[dif_neg (by simpa[hl]using hn)];simp[V.den,h]
 match xs,h with
 |[],h=>exact tup (by simp)
 |[(ZB,cs)],h=>
   simp only[ce]at h;cases hc:Bt ρ j (ZB,cs)with
   |none=>rw[hc]at h;cases h
   |some v=>rw[hc]at h;cases h;exact hc
 |[(ZC,[c])],h=>
   simp only[ce]at h;cases hc:Bt ρ j (ZC,[c])with
   |none=>rw[hc]at h;cases h
   |some v=>rw[hc]at h;cases h;exact hc
 |[(ZC,[])],h=>simp[ce,Bt]at h
 |[(ZC,_::_::_)],h=>simp[ce,Bt]at h
 |x::y::l,h=>
   have e:Pc (x::y::l)=.tup (x::y::l):=by rcases x with⟨_|_,_|⟨_,_|⟨_,_⟩⟩⟩<;>rfl
   rw[e];exact tup (by simp)
def anm{ρ':Env}{n2:Nat}{s':St}{j':J}{a':Act}{w':World}(hr:At cx ρ n X W0 s j a w)(AM:At cx ρ' n2 (a.tmps.toList++X) {W0 with top:=ZC} s' j' a' w')(D9:(ZI s'.tmps.old.length (s.tmps.old.length+1)&&ZI s'.tmps.pop.n s.n)=ZB):At cx ρ' n X W0 ⟨s'.tmps.pop,s'.heap⟩ j' a w':=by
 rw[ne]at D9;have Fj:=hr.rel.size;have H8:s'.tmps.old≠[]:=fun e=>by have:=Ah D9.1;rw[e]at this;simp at this
 have Nr:s'.tmps.n=n2:=AM.own;have Ra:∀i:Nat,(St.mk s'.tmps.pop s'.heap).fs.tmp i=s'.fs.tmp (n2+i):=fun i=>by simp only[St.fs,Aw];rw[TM.pop_get H8,Nr]
 refine⟨⟨hr.rel.defers,Fj,fun t ht=> ?_,fun i v hi=> ?_,AM.rel.box,AM.rel.nob,AM.rel.inj,AM.rel.row,AM.rel.nor,AM.rel.sep,AM.rel.rsep,AM.rel.fb,AM.rel.ext,⟨AM.rel.gs.at',AM.rel.gs.box,AM.rel.gs.row,AM.rel.gs.md,AM.rel.gs.nd,AM.rel.gs.lp,AM.rel.gs.nol,AM.rel.gs.ev,AM.rel.gs.tb⟩⟩,?_,(Ah D9.2).trans hr.own⟩
 .have O4:t<a.tmps.size:=by rw[Fj];exact ht
  refine⟨a.tmps[t],Array.getElem?_eq_getElem O4,?_⟩;rw[Ra];exact AM.rel.sav t _ (by rw[AW (by simpa using O4),lr];exact Array.getElem?_eq_getElem O4)
 .rw[Ra];have:=AM.rel.sav (n+i) v (by rw[Bc (by simp[Fj])];simpa[Fj]using hi);exact this
 .have h3:=AM.len;simp only[cQ,Array.length_toList,Fj]at h3;have h4:=TM.pop_length H8;show s'.tmps.pop.length=_;omega
def abX(hr:At cx ρ n X W0 s j a w){F:Fz}{m:Nat}(LD:∀i:Nat,F.tmp (m+i)=s.fs.tmp i)(i:Nat)(v:Value)(hi:(a.tmps.toList++X)[i]? =ZA v):F.tmp (m+i)=.top\/(F.tmp (m+i)).den ρ j=ZA v:=by
 have Fj:=hr.rel.size;rw[LD];rcases bn i n with h1|h1
 .rw[AW (by simpa[Fj]using h1)]at hi;obtain⟨v',h2,h3⟩:=hr.rel.tmp i h1;rw[lr,h2]at hi;cases hi;exact h3
 .rw[Bc (by simpa[Fj]using h1)]at hi;have:=hr.rel.sav _ v hi;simp only[Array.length_toList,Fj]at this;rw[show n+(i-n)=i by omega]at this;exact this
def sR{dep:Nat}{t:TT}{m:Nat}:∀{l:List (TT×Nat)},qX dep l=ZA (t,m)->∃off,off+(m+dep)=fh l/\∀i,i<m->jg l (off+i)=ZA (t.get i)
 |[],h=>by cases h
 |(t0,n0)::l,h=>by
   simp only[qX]at h;split at h
   next hb=>cases h;exact⟨0,by rw[<-Ah hb];simp[fh],fun i hi=>by rw[be];simp[jg,hi]⟩
   .obtain⟨off,h1,h2⟩:=sR h;refine⟨n0+off,by simp only[fh];omega,fun i hi=> ?_⟩;simp only[jg];rw[aa Fn,show n0+off+i-n0=off+i by omega];exact h2 i hi
def alc{r:RfS}{rf:Rf}{t:TT}{m:Nat}(hr:At cx ρ n X W0 s j a w){A B:List Value}(hX:X=A++(rf.tmps.toList++B))(hB:B.length=r.dep)(BC:rf.tmps.size=m)(hf:qX r.dep s.tmps.old=ZA (t,m)):
  At cx ρ m (a.tmps.toList++X) {W0 with top:=ZC} ⟨⟨t,m,(s.tmps.cur,s.tmps.n)::s.tmps.old⟩,s.heap⟩ j {tmps:=rf.tmps,defers:=[]} w:=by
 obtain⟨off,h1,h2⟩:=sR hf;have hn:s.tmps.n=n:=hr.own;have AE:X.length=fh s.tmps.old:=by have h3:=hr.len;unfold TM.length at h3;omega
 have hA:A.length=off:=by have:=congrArg List.length hX;simp only[cQ,Array.length_toList]at this;omega
 refine⟨⟨rfl,BC,fun i hi=> ?_,abX hr (fun i=> ?_),hr.rel.box,hr.rel.nob,hr.rel.inj,hr.rel.row,hr.rel.nor,hr.rel.sep,hr.rel.rsep,hr.rel.fb,hr.rel.ext,⟨hr.rel.gs.at',hr.rel.gs.box,hr.rel.gs.row,hr.rel.gs.md,hr.rel.gs.nd,hr.rel.gs.lp,hr.rel.gs.nol,hr.rel.gs.ev,hr.rel.gs.tb⟩⟩,?_,rfl⟩
 .have Hi:i<rf.tmps.size:=by rw[BC];exact hi
  refine⟨rf.tmps[i],Array.getElem?_eq_getElem Hi,?_⟩;have h3:=hr.rel.sav (off+i) rf.tmps[i] (by
   have e:rf.tmps.toList.length=m:=by simp[BC]
   rw[hX,Bc Fn,AW Fn];rw[show off+i-A.length=i by omega,lr];exact Array.getElem?_eq_getElem Hi)
  have h4:s.fs.tmp (n+(off+i))=t.get i:=by simp only[St.fs,Aw,TM.get?];rw[aa Fn,show n+(off+i)-s.tmps.n=off+i by omega,h2 i hi];rfl
  have h5:(St.mk ⟨t,m,(s.tmps.cur,s.tmps.n)::s.tmps.old⟩ s.heap).fs.tmp i=t.get i:=by simp only[St.fs,Aw,TM.get?];rw[ae hi];rfl
  rw[h4]at h3;rw[h5];exact h3
 .simp only[St.fs,Aw,TM.get?];rw[aa Fn,show m+i-m=i by omega];rfl
 .simp only[TM.length,fh,cQ,Array.length_toList,hr.rel.size];rw[hn,<-AE]
def abg{X:List Value}{W0:Wb}{heap:List Ob}{j:J}{w:World}:∀{ps:List Nat} {vs:List V} {us:List Value} {tm Tz:TM} {a:Act},SA tm ps vs=ZA Tz->At cx ρ n X W0 ⟨tm,heap⟩ j a w->us.length=vs.length->(∀(i:Nat) x,vs[i]? =ZA x->∃u,us[i]? =ZA u/\x.den ρ j=ZA u)->
  At cx ρ n X W0 ⟨Tz,heap⟩ j {a with tmps:=(ps.zip us).foldl (fun t p=>t.setIfInBounds p.1 p.2) a.tmps} w/\ps.length=us.length
 |[],[],[],tm,Tz,a,h,hr,_,_=>by cases h;exact⟨hr,rfl⟩
 |p::ps,v::vs,u::us,tm,Tz,a,h,hr,hl,hd=>by
   simp only[SA]at h;split at h
   .rename_i hp;have hp:p<tm.n:=by simpa[Nat.blt_eq]using hp
    obtain⟨u',h1,h2⟩:=hd 0 v rfl;simp only[cH,aU]at h1;subst h1;have hn:tm.n=n:=hr.own;have h3:At cx ρ n X W0 ⟨tm.set p v,heap⟩ j (a.put (ZA p) u) w:=by
     refine⟨?_,hr.len,hr.own⟩;have h4:=hr.rel.put (dst:=ZA p) h2 (fun d hd=>by cases hd;omega);have e:(St.mk (tm.set p v) heap).fs=(St.mk tm heap).fs.put (ZA p) v:=by
      refine Fz.ext' (fun t=> ?_) (fun _=>rfl) (fun _=>rfl) (fun _=>rfl);simp only[Fz.put,St.fs,Aw,TM.get_set tm v hp];by_cases ht:p=t
      .subst ht;simp
      .simp[ht]
     rw[e];exact h4
    obtain⟨h5,h6⟩:=abg h h3 Ya (fun i x hx=>hd (i+1) x Xx);exact⟨h5,by simp[h6]⟩
   .exact ST
 |[],_::_,_,_,_,_,h,_,_,_=>by cases h
 |_::_,[],_,_,_,_,h,_,_,_=>by cases h
 |[],[],_::_,_,_,_,_,_,hl,_=>by simp at hl
 |_::_,_::_,[],_,_,_,_,_,hl,_=>by simp at hl
def adA{x:LS}(h:LS.same x .ready=ZB):x=.ready:=by cases x<;>first|rfl|cases h
def aqr(hm:P.follows .mixedOrders=ZB)(hT:∀t i,(t,i)∈cx.ty->TIok P t i)(hS:∀s∈cx.sm,SmOk P sp s)(AO:∀s∈cx.sm,∀s'∈cx.sm,s.key=s'.key->s=s'){fuel:Nat}{cl:HK}{r:RfS}(CQ:CallOk P sp G cx (ZA r) cl)
  {id:Nat}   {kw:Kw} {k:V->St->Kw->Tr} {R:Value->World->Prop}        {l:Nat} (h:(NZ cl cx fuel r id args s kw k).holds sp G ρ I) (hg:Good sp cx.sm ρ kw) (hr:At cx ρ n X W0 s j a w) (ht:Tie sp (ZA r) X W0)
  (LW:j.g.y id=ZA l) (hl:vals.length=args.length) (hd:∀(i:Nat) x,args[i]? =ZA x->∃u,vals[i]? =ZA u/\x.den ρ j=ZA u)
  (hR:∀v s' Ak ρ' I' j' w' u,(k v s' Ak).holds sp G ρ' I'->Good sp cx.sm ρ' Ak->Ag kw.vk.length ρ ρ'->(∀m,m<kw.lv->I' m=I m)->kw.lv<=Ak.lv->kw.vk.length<=Ak.vk.length->v.den ρ' j'=ZA u->At cx ρ' n X W0 s' j' a w'->R u w'):
  ∃f tmps assign body,(Instr.yield l vals.toArray).run P w=.ok (.round l f tmps assign body) w/\∀ro,RoundIn (Fw ro) 0 P l f tmps assign body w fun e w'=>∃u,e=.returned u/\R u w':=by
 obtain⟨t0,rf,A,B,t1,t2,t3,t4,t5,t6,t7⟩:=ht;unfold NZ at h;split at h<;>first|exact h.elim|skip
 rename_i y t m hy hf;split at h<;>first|exact h.elim|skip
 rename_i D9;simp only[ne]at D9;have hm0:m=r.len:=Ah D9.1;split at h<;>first|exact h.elim|skip
 rename_i tm htm;have hy0:s.fs.lp id=ZA y:=oI.2 hy;obtain⟨rf',o,e1,e2,e3,e4,e5,e6⟩:=hr.rel.lpZ hy0;rw[t1]at e1;cases e1;have hll:l=rf.l:=by rw[LW]at e2;exact YL e2
 subst hll;have h0:=alc (r:=r) (rf:=rf) hr t6 t7 (t5.trans hm0.symm) hf;obtain⟨h1,h2⟩:=abg htm h0 hl hd;have Gf:vals.toArray.size=o.params.size:=by rw[e5.ps,t2];simpa using h2.symm
 refine⟨o.fn,_,o.assign,o.body,run_yield e4 Gf,fun ro=>roundIn_of_wpIn (F:=Fw ro) trivial ?_⟩;have Js:(Fw ro).inRound rf.l=Fw (ZA rf.l):=rfl;rw[Js];have etm:(o.params.zip vals.toArray).foldl (fun tmps (x:Nat×Value)=>match x with|(t,a)=>tmps.setIfInBounds t a) o.tmps=(r.ps.toList.zip vals).foldl (fun t p=>t.setIfInBounds p.1 p.2) rf.tmps:=by rw[e5.ps,e5.tmps,t2,<-Array.foldl_toList,Array.toList_zip]
 rw[etm,e5.assign,t3];have Q9:Tie sp (ZA r) (a.tmps.toList++X) {W0 with top:=ZC}:=(show Tie sp (ZA r) X {W0 with top:=ZC}from⟨t0,rf,A,B,t1,t2,t3,t4,t5,t6,t7⟩).more _;refine pA (rl:=ZD) (ry:=ZA r) CQ (fun f hf=>by cases hf) hm hT hS AO fuel r.assign {W0 with top:=ZC} _ kw _ _ ρ I j _ w Q9 (fun e=>by cases e) h hg h1 (fun M1 sg s1 Bn ρ1 I1 j1 a1 w1 Xe h' CC CN DZ B0 CG AM=> ?_);have Xe:M1=W0.M:=Xe rfl;subst Xe;cases sg with
 |exit id=>exact h'.elim
 |ret=>exact h'.elim
 |normal=>
   dsimp only at h';split at h'<;>first|exact h'.elim|skip
   rename_i y1 QA;split at h'<;>first|exact h'.elim|skip
   rename_i MW;rw[ne]at MW;have Qb:s1.fs.lp id=ZA y1:=oI.2 QA;obtain⟨Q5,o1,f1,f2,f3,f4,f5,f6⟩:=AM.rel.lpZ Qb;have:Q5=rf:=by have h8:W0.rf=ZA Q5:=f1;rw[t1]at h8;exact(YL h8).symm
   subst this;refine⟨_,run_beginRound f4 (by rw[f5.st,adA MW.1];rfl),?_⟩;have h9:=AM.rel.loopSet Qb (fun i yi hi=>Uj MW.2 i yi hi) f1 f2 f3 (y':=⟨.busy,y1.pend⟩) (o':={o1 with state:=.busy}) ⟨rfl,f5.pend,f5.ps,f5.assign,f5.body,f5.tmps⟩;rw[e5.body,t4];have Xi:At cx ρ1 m (a.tmps.toList++X) {W0 with top:=ZC} ⟨s1.tmps,s1.heap.set id (.loop ⟨.busy,y1.pend⟩)⟩ (j1.setz Q5.l (ZA (.loop {o1 with state:=.busy}))) a1 (w1.putObj Q5.l (.loop {o1 with state:=.busy})):=by refine⟨?_,AM.len,AM.own⟩;rw[show(St.mk s1.tmps (s1.heap.set id (.loop ⟨.busy,y1.pend⟩))).fs=s1.fs.setl id (ZA ⟨.busy,y1.pend⟩)from sQ QA _];exact h9
   refine pA (rl:=ZD) (ry:=ZA r) CQ (fun f hf=>by cases hf) hm hT hS AO fuel r.body {W0 with top:=ZC} _ Bn _ _ ρ1 I1 _ _ _ Q9 (fun e=>by cases e) h' CC Xi (fun M2 sg s2 Dd ρ2 I2 j2 a2 w2 MU K2 hg'' Xg Xd hl'' hv'' hr''=> ?_);have MU:M2=W0.M:=MU rfl;subst MU;split at K2<;>first|exact K2.elim|skip
   rename_i y2 O6;split at K2<;>first|exact K2.elim|skip
   rename_i MX;rw[ne]at MX;have He:=anm hr hr'' MX.1;have Qc:(St.mk s2.tmps.pop s2.heap).fs.lp id=ZA y2:=oI.2 O6;obtain⟨rf2,o2,g1,g2,g3,g4,g5,g6⟩:=He.rel.lpZ Qc;have:rf2=Q5:=by rw[t1]at g1;exact(YL g1).symm
   subst this;have ag:Ag kw.vk.length ρ ρ2:=CN.trans (Xg.mono CG);have LI:∀m,m<kw.lv->I2 m=I m:=fun m hm=>(Xd m Fn).trans (DZ m hm);have GV:∀(EE:Option Sig) (b:Bool),b=EE.isNone->(∀sg,EE=ZA sg->True)->(k (.one (.bool (.tt b))) ⟨s2.tmps.pop,s2.heap.set id (.loop ⟨if b then .ready else .done,EE⟩)⟩ Dd).holds sp G ρ2 I2->
    ∃v w',(Instr.endRound rf2.l (EE.map Sig.code)).run P w2=.ok v w'/\∃u,Ending.returned v=.returned u/\R u w':=by
    intro EE b hb _ hh;have hbn:(EE.map Sig.code).isNone=b:=by rw[hb];cases EE<;>rfl
    refine⟨_,_,run_endRound (EE.map Sig.code) g4,_,rfl,?_⟩;rw[hbn];have g9:=He.rel.loopSet Qc (fun i yi hi=>Uj MX.2 i yi hi) g1 g2 g3 (y':=⟨if b then .ready else .done,EE⟩) (o':={o2 with state:=if b then .ready else .done,pending:=EE.map Sig.code}) ⟨by cases b<;>rfl,rfl,g5.ps,g5.assign,g5.body,g5.tmps⟩;refine hR _ _ Dd ρ2 I2 (j2.setz rf2.l (ZA (.loop {o2 with state:=if b then .ready else .done,pending:=EE.map Sig.code}))) _ (.bool b) hh hg'' ag LI Fn Fn (by simp[V.den,C.den,E.B]) ⟨?_,He.len,He.own⟩;rw[show(St.mk s2.tmps.pop (s2.heap.set id (.loop ⟨if b then .ready else .done,EE⟩))).fs=(St.mk s2.tmps.pop s2.heap).fs.setl id (ZA ⟨if b then .ready else .done,EE⟩)from sQ O6 _];exact g9
   cases sg with
   |normal=>exact GV ZD ZB rfl (fun _ _=>trivial) K2
   |exit id=>exact GV (ZA (.exit id)) ZC rfl (fun _ _=>trivial) K2
   |ret=>exact GV (ZA .ret) ZC rfl (fun _ _=>trivial) K2
def pB(hm:P.follows .mixedOrders=ZB){fuel:Nat}:∀(d:Nat) (cx:Cx) (ry:Option RfS),(∀t i,(t,i)∈cx.ty->TIok P t i)->(∀s∈cx.sm,SmOk P sp s)->(∀s∈cx.sm,∀s'∈cx.sm,s.key=s'.key->s=s')->(∀p∈cx.fns,P.funcs[p.1]? =ZA p.2.1)->CallOk P sp G cx ry (Mw fuel d cx ry)
 |0,cx,ry,_,_,_,_=>⟨fun _ _ _ _ _ _ _ _ _ _ _ _ _ _ _ _ h=>h.elim,fun _ _ _ _ _ _ _ _ _ _ _ _ _ _ _ _ h=>h.elim⟩
 |d+1,cx,ry,hT,hS,AO,hF=>by
   refine⟨fun g args s kw k R ρ I n X W0 j a w vals I0 h hg hr ht hl hd hR=> ?_,fun id args s kw k R ρ I n X W0 j a w vals l h hg hr ht LW hl hd hR=> ?_⟩
   .have Ix:Nat.blt g yB=ZB:=by simpa[Nat.blt_eq]using I0
    simp only[Mw,Ix,aW]at h;split at h
    .exact h.elim
    .rename_i fn hints cuts Qa;have hf:P.funcs[g]? =ZA fn:=hF _ (af Qa);split at h
     .rename_i c hc;split at h
      .exact h.elim
      .rename_i Hk;refine⟨ez hf (by simpa using Hk) (by rw[hc];rfl) _ w,?_⟩;refine vy hf hc ?_;have BC:vals.toArray.size=args.length:=Ya;have Fj:=hr.rel.size;have GB:args.length<=args.length+(fn.ntmps-args.length):=Nat.le_add_right _ _;have LD:∀i:Nat,(s.tmps.push args (args.length+(fn.ntmps-args.length))).get? (args.length+(fn.ntmps-args.length)+i)=s.tmps.get? i:=fun i=>TM.push_old_get s.tmps GB i;refine pA (rl:=ZD) (cx:={cx with hints:=hints,cuts:=cuts}) (n:=args.length+(fn.ntmps-args.length)) (X:=a.tmps.toList++X) (pB hm d _ ry hT hS AO hF) (fun f hf=>by cases hf) hm hT hS AO fuel c {W0 with top:=ZC} _ kw _ _ ρ I j _ w ht (fun e=>by cases e) h hg
        ⟨⟨rfl,by simp[hl],?_,?_,hr.rel.box,hr.rel.nob,hr.rel.inj,hr.rel.row,hr.rel.nor,hr.rel.sep,hr.rel.rsep,hr.rel.fb,hr.rel.ext,⟨hr.rel.gs.at',hr.rel.gs.box,hr.rel.gs.row,hr.rel.gs.md,hr.rel.gs.nd,hr.rel.gs.lp,hr.rel.gs.nol,hr.rel.gs.ev,hr.rel.gs.tb⟩⟩,?_,TM.push_n _ _ _⟩ ?_
       .intro t ht;rcases bn t args.length with h1|h1
        .obtain⟨u,hu,hdu⟩:=hd t args[t] (Az h1);refine⟨u,?_,.inr ?_⟩
         .rw[Array.getElem?_append_left (by simpa[hl]using h1)];simpa using hu
         .simp only[St.fs,Aw];rw[TM.push_arg s.tmps GB h1,Az h1];exact hdu
        .refine⟨Go.undef,?_,.inr ?_⟩
         .rw[Array.getElem?_append_right (by simpa[hl]using h1)];rw[Array.getElem?_replicate,ae (by rw[BC];omega)]
         .simp only[St.fs,Aw];rw[TM.push_undef s.tmps GB h1 ht];rfl
       .exact abX hr (fun i=>by simp only[St.fs,Aw,LD])
       .simp only[TM.push_length,hr.len,cQ,Array.length_toList,Fj]
       .intro M' sg s' Ak ρ' I' j' a' w' Ee h' CC CN DZ B0 CG AM;have Ee:M'=W0.M:=Ee rfl;subst Ee;have AM:At cx ρ' (args.length+(fn.ntmps-args.length)) (a.tmps.toList++X) {W0 with top:=ZC} s' j' a' w':=⟨AM.rel,AM.len,AM.own⟩
        have GV:(match GN cx s' fn.results.toList with
         |some xs=>if ZI s'.tmps.old.length (s.tmps.old.length+1)&&ZI s'.tmps.pop.n s.n then k (Pc xs) ⟨s'.tmps.pop,s'.heap⟩ Ak else .stuck 129
         |none=>.stuck 81:Tr).holds sp G ρ' I'->a'.defers=[]/\∃v,(results fn a'.tmps).run P w'=.ok v w'/\∃u,Ending.returned v=.returned u/\R u w':=by
         intro h';split at h'
         .rename_i xs LV;split at h'<;>first|exact h'.elim|skip
          rename_i D9;obtain⟨vs,h1,h2⟩:=sB hT AM LV;exact⟨AM.rel.defers,_,h2,_,rfl,hR (Pc xs) _ Ak ρ' I' j' w' _ h' CC CN DZ B0 CG (aeZ h1) (anm hr AM D9)⟩
         .exact h'.elim
        cases sg with
        |exit id=>exact h'.elim
        |normal=>exact GV h'
        |ret=>exact GV h'
     .exact h.elim
   .have Ix:Nat.blt (yB+id) yB=ZC:=by
     cases hb:Nat.blt (yB+id) yB with
     |false=>rfl
     |true=>
       have:yB+id<yB:=by simpa[Nat.blt_eq]using hb
       omega
    simp only[Mw,Ix]at h;split at h
    .cases ‹ZC=ZB›
    .split at h
     next r=>rw[show yB+id-yB=id by omega]at h;obtain⟨f,tm,as,bd,h1,h2⟩:=aqr (cx:={cx with hints:=r.hints,cuts:=r.cuts}) hm hT hS AO (pB hm d {cx with hints:=r.hints,cuts:=r.cuts} (ZA r) hT hS AO hF) h hg ⟨hr.rel,hr.len,hr.own⟩ ht LW hl hd (R:=R) (fun v s' Ak ρ' I' j' w' u q1 q2 q3 q4 q5 q6 q7 q8=>hR v s' Ak ρ' I' j' w' u q1 q2 q3 q4 q5 q6 q7 ⟨q8.rel,q8.len,q8.own⟩);exact⟨f,tm,as,bd,h1,h2⟩
     .exact h.elim
def arO(hF:∀p∈cx.fns,P.funcs[p.1]? =ZA p.2.1)(hm:P.follows .mixedOrders=ZB)(hT:∀t i,(t,i)∈cx.ty->TIok P t i)(hS:∀s∈cx.sm,SmOk P sp s)(AO:∀s∈cx.sm,∀s'∈cx.sm,s.key=s'.key->s=s'){f:Nat}(hf:P.funcs[f]? =ZA fn){fuel:Nat}{heap:List Ob}{kw:Kw}(BD:∀(i:Nat) x,args[i]? =ZA x->∃u,vals[i]? =ZA u/\x.den ρ j=ZA u)(AE:vals.length=args.length)(ht:ZI cx.res.length 1 = !tup){X:List Dt}(h:(MO cx fuel fn args heap kw).holds sp (fun ρ e=>e.D ρ=X) ρ I)(hg:Good sp cx.sm ρ kw)(w:World)(Em:Start cx ρ heap j w)(Nc:sp.hw w):Calls P f vals.toArray w fun e w'=>∃v,e=.returned v/\RetOk cx.res tup w w' X v:=by
 unfold MO at h;split at h
 .rename_i c hc;refine kJ.1 (callsIn_of_wp_marks (F:=Fw ZD) (n:=0) hf hc trivial ?_);have BC:vals.toArray.size=args.length:=by simpa using AE
  have jr:∀b,(BP heap b=ZD↔heap.length<=b)/\∀r,BP heap b=ZA (ZA r)->heap[b]? =ZA (.row r):=by
   intro b;refine⟨⟨fun hb=> ?_,fun hb=>by simp[BP,bN hb]⟩,fun r hb=> ?_⟩
   .rcases bn b heap.length with Ap|Dp
    .obtain⟨r,s,e,_⟩:=Em.row b _ (Az Ap);simp[BP,Az Ap,e]at hb
    .exact Dp
   .unfold BP at hb;split at hb
    next r' hr=>cases hb;exact hr
    .cases hb
    .cases hb
  have AJ:∀b r,BP heap b=ZA (ZA r)->r.own=ZC:=fun b r hb=>by obtain⟨r',s,e,h1,_⟩:=Em.row b _ ((jr b).2 r hb);cases e;exact h1
  have Q2:∀b,B8 heap b=ZD:=fun b=>by
   unfold B8;split
   next cs ty hb=>obtain⟨r,s,e,_⟩:=Em.row b _ hb;cases e
   .rfl
  refine pA (P:=P) (n:=args.length+(fn.ntmps-args.length)) (X:=[]) (pB hm 12 cx ZD hT hS AO hF) (fun f hf=>by cases hf;exact⟨rfl,fun r=>pB hm 12 cx (ZA r) hT hS AO hF⟩) hm hT hS AO fuel c ⟨w,[],ZB,ZD,sp.hw,fun w' hx=>sp.hx w w' hx Nc⟩ _ kw _ _ ρ I j _ w ⟨rfl,trivial⟩ (fun _=>⟨rfl,rfl⟩) h hg ⟨⟨rfl,by simp[AE],?_,fun i v hi=>(by simp at hi),fun b cs ty hb=> ?_,fun b _=>Em.nob b,fun b b' k hb=> ?_,fun b r hb=> ?_,fun b hb=>Em.nos b ((jr b).1.1 hb),fun b b' k r s hb=> ?_,fun b b' r r' s s' k hb ho=> ?_,Em.fb,Ext.refl w,⟨fun k o hz=>(by rw[Em.gh]at hz;have:=vx.1 hz;exact⟨this.1,fun e=>by rw[this.2]at e;cases e⟩),fun k o b hz e=>(by rw[Em.nob]at e;cases e),fun k o id r s hz hF hs hc e=>(by rw[Em.gh]at hz;have h1:=(vx.1 hz).2;have h2:r.own=ZC:=AJ id r hF;exact hc.elim (fun hc=>Bool.noConfusion (h2.symm.trans hc)) (fun hc=>Bool.noConfusion (h1.symm.trans hc))),fun D hD=>(by cases hD),List.nodup_nil,fun id y hy=> ?_,fun id _ _=>(by rw[Em.gh]),fun id r s hF hs=> ?_,fun id r s hF hk hs=> ?_⟩⟩,(by rw[TM.push_length];rfl),TM.push_n _ _ _⟩ ?_
  .intro t ht;rcases bn t args.length with h1|h1
   .obtain⟨u,hu,hd⟩:=BD t args[t] (Az h1);refine⟨u,?_,.inr ?_⟩
    .rw[Array.getElem?_append_left (by simpa[AE]using h1)];simpa using hu
    .simp only[St.fs,Aw];rw[TM.push_arg _ (Nat.le_add_right _ _) h1,Az h1];exact hd
   .refine⟨Go.undef,?_,.inr ?_⟩
    .rw[Array.getElem?_append_right (by simpa[AE]using h1)];rw[Array.getElem?_replicate,ae (by rw[BC];omega)]
    .simp only[St.fs,Aw];rw[TM.push_undef _ (Nat.le_add_right _ _) h1 ht];rfl
  .rw[show(St.mk (TM.push args (args.length+(fn.ntmps-args.length)) ⟨.u (.one .undef),0,[]⟩) heap).fs.box b=B8 heap b from rfl,Q2]at hb;cases hb
  .rw[Em.nob]at hb;cases hb
  .obtain⟨r',s,e,h1,h2,h3⟩:=Em.row b _ ((jr b).2 r hb);cases e;exact⟨s,h2,h3⟩
  .rw[Em.nob]at hb;cases hb
  .rw[AJ b r hb]at ho;cases ho
  .obtain⟨r,s,e,_⟩:=Em.row id _ (oI.1 hy);cases e
  .exact fun p hp=>by rw[Em.gh];have h1:=Em.zz id s hs p hp;exact⟨vx.2 h1,h1.2⟩
  .obtain⟨r',s',e,h1,h2,h3⟩:=Em.row id _ ((jr id).2 r hF);cases e;have:=(h3.2.1 Yq).own;rw[h1]at this;cases this
  .intro M' sg s' Ak ρ' I' j1' LC w1' _ h' CC CN DZ B0 CG ED;have QX:(∀j' w',At cx ρ' (args.length+(fn.ntmps-args.length)) [] ⟨w,[],ZB,ZD,sp.hw,fun w' hx=>sp.hx w w' hx Nc⟩ s' j' {LC with defers:=[]} w'->∃v,(results fn LC.tmps).run P w'=.ok v w'/\∃u,Ending.returned v=.returned u/\RetOk cx.res tup w w' X u)->LeavesInM (Fw ZD) 0 P fn LC.tmps (fun e w'=>∃v,e=.returned v/\RetOk cx.res tup w w' X v) LC.defers .returning w1':=by
    intro hk;rw[ED.rel.defers];refine Rel.unmark M' rfl ED.rel (fun j' w' h2=> ?_);obtain⟨v,k1,k2⟩:=hk j' w' ⟨h2,ED.len,ED.own⟩;exact⟨v,k1,k2⟩
   have GV:∀j' w',At cx ρ' (args.length+(fn.ntmps-args.length)) [] ⟨w,[],ZB,ZD,sp.hw,fun w' hx=>sp.hx w w' hx Nc⟩ s' j' {LC with defers:=[]} w'->∀xs,GN cx s' fn.results.toList=ZA xs->∀e,rm Ak.vk s'.heap cx.res xs=ZA e->oG (F8 cx.res xs)=ZB->e.D ρ'=X->∃v,(results fn LC.tmps).run P w'=.ok v w'/\∃u,Ending.returned v=.returned u/\RetOk cx.res tup w w' X u:=by
    intro j' w' AM xs LV e he hn hX;obtain⟨vs,h1,h2⟩:=sB hT AM LV;have h3:=vo CC.vk AM.rel he h1;have h4:=h3.ret (tup:=tup) ht (by rw[kh h1,rk he]) AM.rel.ext (fun i i' a b k hi A6 hk BZ=> ?_) (fun a ha p hp=> ?_)
    .rw[hX]at h4;exact⟨_,h2,_,rfl,h4⟩
    .cases a with
     |none=>cases hk
     |some a=>
       cases b with
       |none=>cases BZ
       |some b=>obtain⟨r,ED,G0⟩:=kr he i a hi;obtain⟨r',No,O0⟩:=kr he i' b A6;rw[<-iS]at ED No;have q1:=fC ED;have q2:=fC No;obtain⟨s1,t1,_⟩:=AM.rel.row a r q1;obtain⟨s2,t2,_⟩:=AM.rel.row b r' q2;simp only[T1,t1,t2,Option.getD_some]at hk BZ;have:=AM.rel.rsep a b r r' s1 s2 k q1 G0 q2 t1 t2 (nj G0 hk) (nj O0 BZ);subst this;exact xx hn i i' a hi A6
    .cases a with
     |none=>cases hp
     |some a=>
       obtain⟨i,hi⟩:=List.getElem?_of_mem ha;obtain⟨r,ED,G0⟩:=kr he i a hi;have FF:=ED;rw[<-iS]at ED;have q1:=fC ED;obtain⟨s1,t1,t3⟩:=AM.rel.row a r q1;cases Ao:G9 s'.heap a with
       |false=>simp[Dg,Ao]at hp
       |true=>
         have Cj:Dg s'.heap j' (ZA a)=s1:=by simp[Dg,Ao,t1]
         rw[Cj]at hp;have Dq:r.kd=.ev:=by unfold G9 at Ao;rw[FF]at Ao;exact RK.isEv_eq Ao
         obtain⟨z1,z2⟩:=AM.rel.gs.ev a r s1 q1 t1 p hp;refine⟨(AM.rel.gs.at' _ _ z1).1,z2,(t3.2.2 Dq).zb G0 p hp,fun u hu e=> ?_⟩;obtain⟨b,hb,rfl⟩:=List.mem_map.1 hu;cases b with
         |none=>cases e
         |some b=>obtain⟨i',A6⟩:=List.getElem?_of_mem hb;obtain⟨r',No,O0⟩:=kr he i' b A6;rw[<-iS]at No;have q2:=fC No;obtain⟨s2,t2,_⟩:=AM.rel.row b r' q2;simp only[T1,t2,Option.getD_some]at e;exact AM.rel.gs.row _ _ b r' s2 z1 q2 t2 (.inl O0) (nj O0 e)
   have PK:(match GN cx s' fn.results.toList with
     |some xs=>match rm Ak.vk s'.heap cx.res xs with
       |some e=>if oG (F8 cx.res xs)then .u e else .stuck 83
       |none=>.stuck 84
     |none=>.stuck 81:Tr).holds sp (fun ρ e=>e.D ρ=X) ρ' I'->LeavesInM (Fw ZD) 0 P fn LC.tmps (fun e w'=>∃v,e=.returned v/\RetOk cx.res tup w w' X v) LC.defers .returning w1':=by
    intro h';split at h'
    .rename_i xs LV;split at h'
     .rename_i e he;split at h'
      next hn=>exact QX (fun j' w' AM=>GV j' w' AM xs LV e he hn h')
      .exact h'.elim
     .exact h'.elim
    .exact h'.elim
   cases sg with
   |exit id=>exact h'.elim
   |normal=>exact PK h'
   |ret=>exact PK h'
 .exact h.elim
end
def Tr.sc:Nat->Tr->Bool
 |_,.u _|_,.panic|_,.stuck _|_,.at _ _=>ZB
 |n,.br e t f=>e.sc n&&(t.sc n&&f.sc n)
 |n,.call _ ks args v0 t=>args.sc n&&(ZI v0 n&&t.sc (n+ks.length))
 |n,.next _ args=>args.sc n
 |n,.loop _ v0 vks init body=>init.sc n&&(ZI v0 n&&body.sc (n+vks.length))
 |n,.cut _ v0 vks pre body=>ZI v0 n&&(pre.sc n&&body.sc (n+vks.length))
 |n,.any v0 _ t=>ZI v0 n&&t.sc (n+1)
 |n,.both v0 a b=>ZI v0 n&&(a.sc n&&b.sc n)
def Tr.asks(sp:Spec)(G:Env->E->Prop):Env->(Nat->List Dt->Prop)->Tr->Prop
 |ρ,_,.u e=>G ρ e
 |_,_,.panic=>False
 |_,_,.stuck _=>False
 |_,_,.at _ _=>False
 |ρ,I,.br e t f=>(e.B ρ=ZB->t.asks sp G ρ I)/\(e.B ρ=ZC->f.asks sp G ρ I)
 |ρ,I,.call key ks args v0 t=>sp.pre key (args.D ρ)/\(eqs ρ (sp.F key (args.D ρ)) v0 0 ks->t.asks sp G ρ I)
 |ρ,I,.next lv args=>I lv (args.D ρ)
 |ρ,I,.any v0 e t=>∀ρ',Ag v0 ρ ρ'->Aj .i64 (ρ'.i v0)=ZB->e.B ρ'=ZB->t.asks sp G ρ' I
 |ρ,I,.both _ a b=>a.asks sp G ρ I/\b.asks sp G ρ I
 | ρ,I,.loop lv v0 vks init body=>∃(inv:List Dt->Prop) (μ:List Dt->Nat),inv (init.D ρ)/\
   ∀ρ',Ag v0 ρ ρ'->okDs vks (varsD ρ' v0 vks)->inv (varsD ρ' v0 vks)->body.asks sp G ρ' (GQ I lv fun JJ=>inv JJ/\μ JJ<μ (varsD ρ' v0 vks))
 | ρ,I,.cut lv v0 vks pre body=>∃inv:List Dt->Prop,pre.asks sp G ρ (GQ I lv inv)/\
   ∀ρ',Ag v0 ρ ρ'->okDs vks (varsD ρ' v0 vks)->inv (varsD ρ' v0 vks)->body.asks sp G ρ' I
def Tr.asks_mono{G:Env->E->Prop}:∀(t:Tr) (ρ:Env) (I I':Nat->List Dt->Prop),(∀n ds,I n ds->I' n ds)->t.asks sp G ρ I->t.asks sp G ρ I':=by
 intro t
 induction t with
 |u|panic|stuck=>intro ρ I I' _ h;exact h
 |br e t f Hq ihf=>intro ρ I I' hi h;exact⟨fun hb=>Hq ρ I I' hi (h.1 hb),fun hb=>ihf ρ I I' hi (h.2 hb)⟩
 |call key ks args v0 t ih=>intro ρ I I' hi h;exact⟨h.1,fun he=>ih ρ I I' hi (h.2 he)⟩
 |next lv args=>intro ρ I I' hi h;exact hi _ _ h
 |any v0 e t ih=>intro ρ I I' hi h;exact fun ρ' h1 h2 h3=>ih ρ' I I' hi (h ρ' h1 h2 h3)
 |both v0 a b iha ihb=>intro ρ I I' hi h;exact⟨iha ρ I I' hi h.1,ihb ρ I I' hi h.2⟩
 |loop lv v0 vks init body ih=>
   intro ρ I I' hi h;obtain⟨inv,μ,h1,h2⟩:=h;refine⟨inv,μ,h1,fun ρ' ha hd hv=>ih ρ' _ _ (fun n ds=> ?_) (h2 ρ' ha hd hv)⟩;unfold GQ;split
   .exact id
   .exact hi n ds
 |cut lv v0 vks pre body ihp ihb=>
   intro ρ I I' hi h;obtain⟨inv,h1,h2⟩:=h;refine⟨inv,ihp ρ _ _ (fun n ds=> ?_) h1,fun ρ' ha hd hv=>ihb ρ' I I' hi (h2 ρ' ha hd hv)⟩;unfold GQ;split
   .exact id
   .exact hi n ds
 |_=>intro ρ I I' _ h;exact h
def Env.put(ρ:Env)(v0:Nat)(ds:List Dt):Env:=⟨fun i=>if v0<=i then dI ds (i-v0)else ρ.i i,fun i=>if v0<=i then dB ds (i-v0)else ρ.b i,fun i=>if v0<=i then dL ds (i-v0)else ρ.l i⟩
def mF(ρ:Env)(v0:Nat)(ds:List Dt):Ag v0 ρ (ρ.put v0 ds):=fun i hi=>by have:¬v0<=i:=Fn;simp[Env.put,this]
def an9{ρ:Env}{ds:List Dt}{v0:Nat}:∀(ks:List CK) (n:Nat),(∀m,n<=m->m<n+ks.length->ρ.i (v0+m)=dI ds m/\ρ.b (v0+m)=dB ds m/\ρ.l (v0+m)=dL ds m)->eqs ρ ds v0 n ks
 |[],_,_=>trivial
 |k::ks,n,h=>by
   have h0:=h n (YJ _) (by simp);have h1:=an9 ks (n+1) (fun m h1 h2=>h m Fn (by simp at h2 ⊢;omega));cases k
   case int=>exact⟨h0.1,h1⟩
   case bool=>exact⟨h0.2.1,h1⟩
   case sl=>exact⟨h0.2.2,h1⟩
   all_goals exact h1
def aaM{ρ:Env}{v0:Nat}{ds:List Dt}:∀(vks:List VK) (n:Nat),okDs vks (ds.drop n)->(∀m,n<=m->m<n+vks.length->ρ.i (v0+m)=dI ds m/\ρ.b (v0+m)=dB ds m/\ρ.l (v0+m)=dL ds m)->varsD ρ (v0+n) vks=ds.drop n
 |[],n,h,_=>by
   cases hd:ds.drop n with
   |nil=>rfl
   |cons d r=>rw[hd]at h;exact h.elim
 |k::vks,n,h,hv=>by
   cases hd:ds.drop n with
   |nil=>rw[hd]at h;cases k<;>exact h.elim
   |cons d r=>
     rw[hd]at h;obtain⟨d1,d2⟩:=fq hd;have ih:=aaM vks (n+1) (by rw[d2];exact h.2) (fun m h1 h2=>hv m Fn (by simp at h2 ⊢;omega));rw[d2]at ih;obtain⟨h1,h2,h3⟩:=hv n (YJ _) (by simp);simp only[varsD];rw[show v0+n+1=v0+(n+1) by omega,ih];congr 1;have ok:=h.1;cases k with
     |int k=>
       cases d with
       |z x=>simp only[varD];rw[h1,PB d1]
       |l L=>exact ok.elim
     |bool=>
       cases d with
       |z x=>simp only[varD];rw[h2];simp only[dB,PB d1];rcases ok with rfl|rfl<;>rfl
       |l L=>exact ok.elim
     |list ks=>
       cases d with
       |z x=>exact ok.elim
       |l L=>simp only[varD];rw[h3,SS d1]
def mD{ρ:Env}(h:okDs vks ds){ρ':Env}(ha:Ag (v0+vks.length) (ρ.put v0 ds) ρ'):varsD ρ' v0 vks=ds:=by refine(aaM (v0:=v0) (ds:=ds) vks 0 h (fun m _ h2=> ?_));have:=ha (v0+m) Fn;simp only[Env.put,ae (Nat.le_add_right v0 m),Nat.add_sub_cancel_left]at this;exact⟨this.1.symm,this.2.1.symm,this.2.2.symm⟩
def ad5{G:Env->E->Prop}:∀(t:Tr) (n:Nat) (ρ:Env) (I:Nat->List Dt->Prop),t.sc n=ZB->(∀ρ',Ag n ρ ρ'->t.asks sp G ρ' I)->∃ρ',Ag n ρ ρ'/\t.holds sp G ρ' I:=by
 intro t
 induction t with
 |u v=>intro n ρ I _ h;exact⟨ρ,Ag.refl n ρ,h ρ (Ag.refl n ρ)⟩
 |panic=>intro n ρ I _ h;exact(h ρ (Ag.refl n ρ)).elim
 |stuck m=>intro n ρ I _ h;exact(h ρ (Ag.refl n ρ)).elim
 |next lv args=>intro n ρ I _ h;exact⟨ρ,Ag.refl n ρ,h ρ (Ag.refl n ρ)⟩
 |any v0 e t ih=>
   intro n ρ I hs h;simp only[Tr.sc,ne]at hs;have CG:=Ah hs.1;subst CG;refine⟨ρ,Ag.refl _ _,fun z hz=> ?_⟩;have Ie:∀ρ',Ag (v0+1) (ρ.put v0 [.z z]) ρ'->ρ'.i v0=z:=fun ρ' Ef=>by rw[<-(Ef v0 Fn).1];simp[Env.put,dI]
   cases hb:e.B (ρ.put v0 [.z z])with
   |false=>exact⟨_,mF ρ v0 _,Ie _ (Ag.refl _ _),fun hf=>by rw[hb]at hf;cases hf⟩
   |true=>
     by_cases Bg:∃ρ',Ag (v0+1) (ρ.put v0 [.z z]) ρ'/\e.B ρ'=ZC
     .obtain⟨ρ',g1,g2⟩:=Bg;exact⟨ρ',(mF ρ v0 _).trans (g1.mono Fn),Ie ρ' g1,fun hf=>by rw[g2]at hf;cases hf⟩
     .have AX:∀ρ',Ag (v0+1) (ρ.put v0 [.z z]) ρ'->e.B ρ'=ZB:=fun ρ' g1=>by
       cases hq:e.B ρ' with
       |true=>rfl
       |false=>exact ak ⟨ρ',g1,hq⟩ Bg
      obtain⟨ρ',g1,g2⟩:=ih (v0+1) (ρ.put v0 [.z z]) I hs.2 (fun ρ' Ef=>h ρ (Ag.refl _ _) ρ' ((mF ρ v0 _).trans (Ef.mono Fn)) (by rw[Ie ρ' Ef];exact hz) (AX ρ' Ef));exact⟨ρ',(mF ρ v0 _).trans (g1.mono Fn),Ie ρ' g1,fun _=>g2⟩
 |br e t f Hq ihf=>
   intro n ρ I hs h;simp only[Tr.sc,ne]at hs;cases hb:e.B ρ with
   |true=>obtain⟨ρ',h1,h2⟩:=Hq n ρ I hs.2.1 (fun ρ' ha=>(h ρ' ha).1 (by rw[<-(E.sc_eq ha e hs.1).2.1];exact hb));refine⟨ρ',h1,fun _=>h2,fun hf=> ?_⟩;rw[<-(E.sc_eq h1 e hs.1).2.1,hb]at hf;cases hf
   |false=>obtain⟨ρ',h1,h2⟩:=ihf n ρ I hs.2.2 (fun ρ' ha=>(h ρ' ha).2 (by rw[<-(E.sc_eq ha e hs.1).2.1];exact hb));refine⟨ρ',h1,fun hf=> ?_,fun _=>h2⟩;rw[<-(E.sc_eq h1 e hs.1).2.1,hb]at hf;cases hf
 |call key ks args v0 t ih=>
   intro n ρ I hs h;simp only[Tr.sc,ne]at hs;obtain⟨ha,hv,ht⟩:=hs;have CG:=Ah hv;subst CG;have Sa:∀ρ',Ag (v0+ks.length) (ρ.put v0 (sp.F key (args.D ρ))) ρ'->Ag v0 ρ ρ':=fun ρ' Ef=>(mF ρ v0 _).trans (Ef.mono Fn);have he:∀ρ',Ag (v0+ks.length) (ρ.put v0 (sp.F key (args.D ρ))) ρ'->eqs ρ' (sp.F key (args.D ρ')) v0 0 ks:=fun ρ' Ef=>by rw[<-(E.sc_eq (Sa ρ' Ef) args ha).2.2.2.2];refine an9 ks 0 (fun m h1 h2=> ?_);have:=Ef (v0+m) Fn;simp only[Env.put,ae (Nat.le_add_right v0 m),Nat.add_sub_cancel_left]at this;exact⟨this.1.symm,this.2.1.symm,this.2.2.symm⟩
   obtain⟨ρ',h1,h2⟩:=ih (v0+ks.length) _ I ht (fun ρ' Ef=>(h ρ' (Sa ρ' Ef)).2 (he ρ' Ef));exact⟨ρ',Sa ρ' h1,(h ρ' (Sa ρ' h1)).1,he ρ' h1,h2⟩
 |both v0 a b iha ihb=>intro n ρ I hs h;simp only[Tr.sc,ne]at hs;obtain⟨hv,ha,hb⟩:=hs;have CG:=Ah hv;subst CG;obtain⟨ρ1,g1,g2⟩:=iha v0 ρ I ha (fun ρ' Ef=>(h ρ' Ef).1);obtain⟨ρ2,g3,g4⟩:=ihb v0 ρ I hb (fun ρ' Ef=>(h ρ' Ef).2);exact⟨ρ,Ag.refl _ _,⟨ρ1,g1,g2⟩,ρ2,g3,g4⟩
 |loop lv v0 vks init body ih=>
   intro n ρ I hs h;simp only[Tr.sc,ne]at hs;obtain⟨hi,hv,hb⟩:=hs;have CG:=Ah hv;subst CG;obtain⟨inv,μ,h1,h2⟩:=h ρ (Ag.refl _ _);refine⟨ρ,Ag.refl _ _,inv,μ,h1,fun ds hd CD=> ?_⟩;obtain⟨ρ',g1,g2⟩:=ih (v0+vks.length) (ρ.put v0 ds) (GQ I lv fun JJ=>inv JJ/\μ JJ<μ ds) hb (fun ρ' Ef=>by
    have EP:=mD hd Ef;have:=h2 ρ' ((mF ρ v0 ds).trans (Ef.mono Fn)) (by rw[EP];exact hd) (by rw[EP];exact CD);rw[EP]at this;exact this)
   exact⟨ρ',(mF ρ v0 ds).trans (g1.mono Fn),mD hd g1,g2⟩
 |cut lv v0 vks pre body ihp ihb=>
   intro n ρ I hs h;simp only[Tr.sc,ne]at hs;obtain⟨hv,hp,hb⟩:=hs;have CG:=Ah hv;subst CG;let J:List Dt->Prop:=fun ds=>∃(ρ1:Env) (inv:List Dt->Prop),Ag v0 ρ ρ1/\inv ds/\∀ρ',Ag v0 ρ1 ρ'->okDs vks (varsD ρ' v0 vks)->inv (varsD ρ' v0 vks)->body.asks sp G ρ' I;obtain⟨ρ2,k1,k2⟩:=ihp v0 ρ (GQ I lv J) hp (fun ρ' ha=>by
    obtain⟨inv,h1,h2⟩:=h ρ' ha;refine pre.asks_mono ρ' _ _ (fun m ds=> ?_) h1;unfold GQ;split
    .exact fun hi=>⟨ρ',inv,ha,hi,h2⟩
    .exact id)
   refine⟨ρ2,k1,J,k2,fun ds hd CD=> ?_⟩;obtain⟨ρ1,inv,a1,a2,a3⟩:=CD;obtain⟨ρ',g1,g2⟩:=ihb (v0+vks.length) (ρ1.put v0 ds) I hb (fun ρ' Ef=>by
    have EP:=mD hd Ef;exact a3 ρ' ((mF ρ1 v0 ds).trans (Ef.mono Fn)) (by rw[EP];exact hd) (by rw[EP];exact a2))
   exact⟨ρ',(k1.symm.trans a1).trans ((mF ρ1 v0 ds).trans (g1.mono Fn)),mD hd g1,g2⟩
 |_=>intro n ρ I _ h;exact(h ρ (Ag.refl n ρ)).elim
def We:C->Value->Bool
 |.int k (.p z),.int k' z'=>bB k k'&&fy z z'
 |.bool (.tt b),.bool b'=>b==b'
 |.np,.pointer ZD=>ZB
 |.nsl,.slice ZD 0 0=>ZB
 |.nf,.nilFunc=>ZB
 |.nmp,.map ZD=>ZB
 |.str .ln,.string s=>s.data.toList.isEmpty
 |_,_=>ZC
def ye:List C->List Value->Bool
 |[],[]=>ZB
 |c::cs,v::vs=>We c v&&ye cs vs
 |_,_=>ZC
def amr(h:We c v=ZB)(ρ:Env)(j:J):c.den ρ j=ZA v:=by
 unfold We at h;split at h
 .simp only[ne]at h;rw[av h.1,cF h.2];rfl
 .rw[cb]at h;rw[h];rfl
 .rfl
 .rfl
 .rfl
 .rfl
 next s=>obtain⟨⟨l⟩⟩:=s;have:l=[]:=Xw;subst this;rfl
 .exact ST
def rt(ρ:Env)(j:J):∀{cs:List C} {vs:List Value},ye cs vs=ZB->Ad ρ j cs=ZA vs
 |[],[],_=>rfl
 |c::cs,v::vs,h=>by simp only[ye,ne]at h;simp[Ad,amr h.1,rt ρ j h.2]
def kG(P:Program):List Field->List (Nat×Nat)->Bool
 |[],[]=>ZB
 |f::fs,(off,ft)::l=>ZI f.offset off&&(ZI f.type ft&&((match P.info? ft with|some i=>!ZI i.size 0|none=>ZC)&&kG P fs l))
 |_,_=>ZC
def MH(P:Program)(t:Nat)(i:TI):Bool:=
 match P.info? t,P.underlying t with
 |some Cv,ZA d=>
   (((match i.mapt with|none=>ZB|some (k,e)=>(match d with|.map k' e'=>ZI k k'&&ZI e e'|_=>ZC))&&(match i.kd with|0=>ZB|1=>(match d with|.pointer _=>ZB|_=>ZC)|2=>(match d with|.string=>ZB|_=>ZC)|_=>ZC))&&(match Cv.zero with|some (.agg _)=>i.agg|some _=>!i.agg|none=>ZC))&&(ZI Cv.size i.size&&((match Cv.zero with|some z=>ye i.zero z.cells.toList&&ZI z.cells.toList.length i.size|none=>ZC)&&(ZI Cv.bytes i.bytes&&
   (match d with
    |.struct fs=>i.agg&&(i.arr.isNone&&(i.ik.isNone&&(!i.isb&&(i.sle.isNone&&(!i.fnt&&kG P fs.toList i.fields)))))
    |.array n e=>i.agg&&((match i.arr with|some (m,e')=>ZI n m&&ZI e e'|none=>ZC)&&(i.ik.isNone&&(!i.isb&&(i.sle.isNone&&(!i.fnt&&i.fields.isEmpty)))))
    |.int k=>!i.agg&&(i.arr.isNone&&((match i.ik with|some k'=>bB k k'|none=>ZC)&&(!i.isb&&(i.sle.isNone&&(!i.fnt&&i.fields.isEmpty)))))
    |.bool=>!i.agg&&(i.arr.isNone&&(i.ik.isNone&&(i.sle.isNone&&(!i.fnt&&i.fields.isEmpty))))
    |.slice e=>!i.agg&&(i.arr.isNone&&(i.ik.isNone&&(!i.isb&&((match i.sle with|some e'=>ZI e e'|none=>ZC)&&(!i.fnt&&i.fields.isEmpty)))))
    |.func _ _ _=>!i.agg&&(i.arr.isNone&&(i.ik.isNone&&(!i.isb&&(i.sle.isNone&&i.fields.isEmpty))))
    |_=>!i.agg&&(i.arr.isNone&&(i.ik.isNone&&(!i.isb&&(i.sle.isNone&&(!i.fnt&&i.fields.isEmpty)))))))))
 |_,_=>ZC
def lO{P:Program}:∀{fs:List Field} {l:List (Nat×Nat)},kG P fs l=ZB->∀(f off ft:Nat),l[f]? =ZA (off,ft)->∃x,fs[f]? =ZA x/\x.offset=off/\x.type=ft/\∃i,P.info? ft=ZA i/\i.size≠0
 |[],[],_,f,off,ft,h=>by simp at h
 |x::fs,(off',ft')::l,hc,f,off,ft,h=>by
   simp only[kG,ne]at hc;cases f with
   |zero=>
     simp only[cH,aU,Prod.mk.injEq]at h;obtain⟨rfl,rfl⟩:=h;refine⟨x,rfl,Ah hc.1,Ah hc.2.1,?_⟩;have h3:=hc.2.2.1;split at h3
     next i hi=>refine⟨i,hi,fun e=> ?_⟩;rw[e]at h3;simp at h3
     .cases h3
   |succ f=>exact lO hc.2.2.2 f off ft Xw
def rz{P:Program}:∀{fs:List Field} {l:List (Nat×Nat)},kG P fs l=ZB->fs.map (fun f=>(f.offset,f.type))=l
 |[],[],_=>rfl
 |x::fs,(off',ft')::l,hc=>by simp only[kG,ne]at hc;rw[YR,rz hc.2.2.2,Ah hc.1,Ah hc.2.1]
def awA{t:Nat}{a b c}(hd:P.underlying t=ZA (.func a b c))(f:Nat)(fa fb)(w:World):(Op.equal t (.func (.func f) fa fb) .nilFunc).run P w=.ok ZC w/\(Op.equal t .nilFunc .nilFunc).run P w=.ok ZB w:=by
 unfold Op.equal;have key:∀d x y,(Op.equalIn (d+1) t x y).run P w=_:=fun d x y=>by rw[Op.equalIn,ZH,run_underlying hd]
 exact⟨(key 9999 _ _).trans rfl,(key 9999 _ _).trans rfl⟩
def asr{t:Nat}{i:TI}(h:MH P t i=ZB)(DF:i.eqok=ZB->∀vs us,aD vs i.zero->aD us i.zero->∀w,(Op.equal t (.agg vs.toArray) (.agg us.toArray)).run P w=.ok (CB vs us) w)(hgrd:i.eqok=ZB->P.eqGuardType P.depth t=ZC)(Gz:i.keyok=ZB->∀vs,aD vs i.zero->∀b w,(Instr.checkKey b 10000 t (.agg vs.toArray)).run P w=.ok () w):TIok P t i:=by
 unfold MH at h;split at h
 .rename_i Cv d Ct hd;simp only[ne]at h;obtain⟨⟨⟨Nh,Dq⟩,IG⟩,h1,h2,Xm,h3⟩:=h;have BC:=Ah h1;have Qv:∀w,(typeInfo t).run P w=.ok Cv w:=fun w=>by simp[typeInfo,program,ZH,Sem.run,Ct]
  obtain⟨z,hz,ES,LX⟩:∃z,Cv.zero=ZA z/\ye i.zero z.cells.toList=ZB/\z.cells.toList.length=i.size:=by
   split at h2
   next z hz=>rw[ne]at h2;exact⟨z,hz,h2.1,Ah h2.2⟩
   .exact XO
  clear h1 h2;refine⟨?_,fun w=>by simp[sizeOf,ZH,Qv,BC],⟨z,fun w=>by simp[zeroValue,ZH,Qv,hz],fun ρ j=>rt ρ j ES⟩,?_,?_,?_,?_,?_,⟨d,hd⟩,DF,hgrd,?_,?_,?_,fun k e hk=> ?_,fun hk=> ?_,fun hk=> ?_,Gz,fun z' Ju=> ?_,⟨Cv,z,Ct,BC,Ah Xm,hz,LX,fun ρ j=>rt ρ j ES⟩⟩
  .intro w;unfold isAgg;rw[ZH,run_underlying hd];cases d<;>simp_all
  .intro f off ft hf w a;cases d<;>simp_all;rename_i fs;obtain⟨x,hx,rfl,rfl,QC,hi,Bg⟩:=lO (P:=P) h3.2.2.2.2.2.2 f off ft hf;have ER:fs[f]? =ZA x:=by rw[<-lr];exact hx
   have hs:∀w,(sizeOf x.type).run P w=.ok QC.size w:=fun w=>by simp[sizeOf,typeInfo,program,ZH,Sem.run,hi]
   simp[Instr.fieldAt,run_underlying hd,ZH,ER,Instr.sureAddr,fieldPlace,hs,Bg]
  .intro f off ft hf w cs;cases d<;>simp_all;rename_i fs;obtain⟨x,hx,rfl,rfl,QC,hi,Bg⟩:=lO (P:=P) h3.2.2.2.2.2.2 f off ft hf;have ER:fs[f]? =ZA x:=by rw[<-lr];exact hx
   simp[Instr.field,run_underlying hd,ZH,ER,asAgg]
  .intro n e ha;cases d<;>simp_all
  .intro h1 h2;cases d<;>simp_all;exact rz (P:=P) h3.2.2.2.2
  .intro k hk;cases d<;>simp_all;rw[av h3.2.2.1]
  .intro hb;cases d<;>simp_all
  .intro e he;cases d<;>simp_all
  .intro hb f fa fb w;cases d<;>simp_all;exact awA hd f fa fb w
  .rw[hk]at Nh;dsimp only at Nh;split at Nh
   .simp only[ne]at Nh;rw[hd,Ah Nh.1,Ah Nh.2]
   .cases Nh
  .simp only[hk]at Dq;cases d<;>first|exact⟨_,hd⟩|cases Dq
  .simp only[hk]at Dq;cases d<;>first|exact hd|cases Dq
  .have e0:=Ju ⟨#[],fun _ _=>0,0,default,#[]⟩;have e1:z'=z:=by
    simp[zeroValue,ZH,Qv,hz]at e0;exact e0.symm
   subst e1;rw[hz]at IG;cases z'<;>simp_all [Value.cells]
 .exact ST
end Go.Proofs.YtgolejfhoefeaabGreatDoor
