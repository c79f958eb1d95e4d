import Derived.Test.YtgolejfhoefeaaaGreatDoorAcZ
import Derived.LoopN
import Derived.Lib.LazyBuf
import Derived.DeepKeys
set_option maxRecDepth 100000
set_option maxHeartbeats 8000000
set_option linter.defProp false
set_option linter.unusedVariables false
set_option linter.unusedSimpArgs false
namespace Go.Proofs.YtgolejfhoefeaaaGreatDoor
open Option renaming some->ZA,none->ZE,map_some->YR
open Bool renaming true->ZB,false->ZC,not_eq_true'->ZO
open Sem renaming run_bind->ZI
open Nat renaming beq->ZJ,le_refl->ZK,add_zero->ZR,add_assoc->ZU
open Option.some renaming inj->ZN
open List renaming length_cons->YQ,flatMap_cons->ZQ,mem_cons->YS,foldl_cons->YV,all_cons->YX,mem_append->ZY
open Go.Region renaming binds->ZX
open Go.RowKit
variable {w w' w0:World}{j:J}{s:St}{a:Act}{vks vk:List VK}{o:Oper}{fn:Func}{W0:Wb}{n v0 fuel i t g:Nat}{X vals:List Value}{sp:Spec}{v:Value}{P:Program}{cs z:List C}{args:List V}{k:CK}{tup b:Bool}{hints cuts:List (Nat×List Pl)}{y:Lp}{c:C}{ks:List CK}{xs ds r:List Dt}{sm:List Sm}{fns:List (Nat×Func×List (Nat×List Pl)×List (Nat×List Pl))}{Ga:List (Option Nat)}{ss res:List Sh}
def E.sc(n:Nat):E->Bool
 |.p _|.nil|.tt _|.ln=>ZB
 |.w i|.s i|.g i=>Nat.blt i n
 |.f _ _ a b|.nth a b|.leq a b|.mix a b|.mn a b|.mx a b|.cons a b|.j a b | .N a b|.lt a b|.eq a b|.and a b|.beq a b|.lq a b|.lcat a b|.lrep a b|.ltake a b|.ldrop a b=>a.sc n&&b.sc n
 |.get a i _|.getb a i _=>a.sc n&&i.sc n
 |.lset a i _ x|.lsetb a i _ x|.lput a i x|.ite a i x=>a.sc n&&(i.sc n&&x.sc n)
 | .F _ a|.not a|.len a=>a.sc n
def E.sc_eq{U U':Env}(h:Ag n U U'):∀e:E,e.sc n=ZB->e.I U=e.I U'/\e.B U=e.B U'/\e.L U=e.L U'/\e.R U=e.R U'/\e.D U=e.D U':=by
 intro e
 induction e<;>intro hs<;>simp only[E.sc,ne]at hs
 case w i=>exact⟨(h i YJ).1,rfl,rfl,rfl,rfl⟩
 case s i=>exact⟨rfl,(h i YJ).2.1,rfl,rfl,rfl⟩
 case g i=>exact⟨rfl,rfl,rfl,(h i YJ).2.2,rfl⟩
 case p=>exact⟨rfl,rfl,rfl,rfl,rfl⟩
 case nil=>exact⟨rfl,rfl,rfl,rfl,rfl⟩
 case ln=>exact⟨rfl,rfl,rfl,rfl,rfl⟩
 case tt=>exact⟨rfl,rfl,rfl,rfl,rfl⟩
 case F ih=>simp[E.I,E.B,E.L,E.R,E.D,ih hs]
 case not ih=>simp[E.I,E.B,E.L,E.R,E.D,ih hs]
 case len ih=>simp[E.I,E.B,E.L,E.R,E.D,ih hs]
 case lset Em En ih3=>simp[E.I,E.B,E.L,E.R,E.D,Em hs.1,En hs.2.1,ih3 hs.2.2]
 case ite Em En ih3=>simp[E.I,E.B,E.L,E.R,E.D,Em hs.1,En hs.2.1,ih3 hs.2.2]
 case lput Em En ih3=>simp[E.I,E.B,E.L,E.R,E.D,Em hs.1,En hs.2.1,ih3 hs.2.2]
 case lsetb Em En ih3=>simp[E.I,E.B,E.L,E.R,E.D,Em hs.1,En hs.2.1,ih3 hs.2.2]
 all_goals
  rename_i Em En;simp[E.I,E.B,E.L,E.R,E.D,Em hs.1,En hs.2]
def Cv:List VK->List E->E
 |.int _::ks,e::es=>.cons e (Cv ks es)
 |.bool::ks,e::es=>.j e (Cv ks es)
 |.list _::ks,e::es=>.N e (Cv ks es)
 |_,_=>.nil
structure Giv(v0:Nat)(vks:List VK)(θ:List E)(U U':Env):Prop where
 ag:Ag v0 U U'
 i:∀m k t,vks[m]? =ZA (.int k)->θ[m]? =ZA t->U'.i (v0+m)=t.I U
 b:∀m t,vks[m]? =ZA .bool->θ[m]? =ZA t->U'.b (v0+m)=t.B U
 l:∀m ks t,vks[m]? =ZA (.list ks)->θ[m]? =ZA t->U'.l (v0+m)=t.R U
def nW{a:Bool}(h:AD a=AD b):a=b:=by cases a<;>cases b<;>first|rfl|cases h
def TG{U U':Env}:∀(vks:List VK) (θ:List E) (n:Nat),θ.length=vks.length->varsD U' n vks=(Cv vks θ).D U->∀m t,θ[m]? =ZA t->(∀k,vks[m]? =ZA (.int k)->U'.i (n+m)=t.I U)/\(vks[m]? =ZA .bool->U'.b (n+m)=t.B U)/\(∀ks,vks[m]? =ZA (.list ks)->U'.l (n+m)=t.R U)
 |[],θ,n,hl,h,m,t,ht=>⟨fun k hk=>by simp at hk,fun hk=>by simp at hk,fun k hk=>by simp at hk⟩
 |vk::vks,[],n,hl,h,m,t,ht=>by cases hl
 |vk::vks,e::θ,n,hl,h,m,t,ht=>by
   have B4:θ.length=vks.length:=Yf;have step:∀d,varD U' n vk=d->(Cv (vk::vks) (e::θ)).D U=d::(Cv vks θ).D U->varsD U' (n+1) vks=(Cv vks θ).D U:=by intro d _ h2;have h3:varD U' n vk::varsD U' (n+1) vks=(Cv (vk::vks) (e::θ)).D U:=h;rw[h2]at h3;exact(List.cons.inj h3).2
   cases m with
   |zero=>
     simp only[cD,bo,ZR]at ht ⊢;subst ht;have h0:varD U' n vk::varsD U' (n+1) vks=(Cv (vk::vks) (e::θ)).D U:=h;refine⟨fun k hk=> ?_,fun hk=> ?_,fun ks hk=> ?_⟩
     .subst hk;simp only[Cv,E.D,varD,Be,Dt.z.injEq]at h0;exact h0.1
     .subst hk;simp only[Cv,E.D,varD,Be,Dt.z.injEq]at h0;exact nW h0.1
     .subst hk;simp only[Cv,E.D,varD,Be,Dt.l.injEq]at h0;exact h0.1
   |succ m=>
     have h1:varsD U' (n+1) vks=(Cv vks θ).D U:=by have h0:varD U' n vk::varsD U' (n+1) vks=(Cv (vk::vks) (e::θ)).D U:=h;cases vk<;>simp only[Cv,E.D,Be]at h0<;>exact h0.2
     have:=TG vks θ (n+1) B4 h1 m t (by simpa using ht);simpa[ZU,Nat.add_comm 1 m]using this
def atN{U U':Env}{θ:List E}(Ed:Ag v0 U U')(hl:θ.length=vks.length)(h:varsD U' v0 vks=(Cv vks θ).D U):Giv v0 vks θ U U':=⟨Ed,fun m k t hk ht=>(TG vks θ v0 hl h m t ht).1 k hk,fun m t hk ht=>(TG vks θ v0 hl h m t ht).2.1 hk,fun m ks t hk ht=>(TG vks θ v0 hl h m t ht).2.2 ks hk⟩
def qY(v:Nat):List CE->List C×List VK
 |[]=>([],[])
 |some k::ks=>(.int k (.w v)::(qY (v+1) ks).1,.int k::(qY (v+1) ks).2)
 |none::ks=>(.bool (.s v)::(qY (v+1) ks).1,.bool::(qY (v+1) ks).2)
def Tz(heap:List Ob)(b o:Nat)(c:C):Option (List Ob):=match heap[b]? with
 |some (.box cs ty)=>if o<cs.length then ZA (heap.set b (.box (cs.set o c) ty))else ZE
 |_=>ZE
def akm(heap:List Ob)(b o:Nat)(l:List C):Option (List Ob):=match heap[b]? with
 |some (.box cs ty)=>if o+l.length<=cs.length then ZA (heap.set b (.box (cs.take o++(l++cs.drop (o+l.length))) ty))else ZE
 |_=>ZE
def TM.only(m:TM)(ks:List Nat):TM:=⟨ks.foldl (fun T k=>T.set (Nat.log2 m.n+1) k (m.cur.get k)) (.u .top),m.n,m.old⟩
def Ng(v0:Nat)(p:Pl)(x:St×List VK):Option (St×List VK):=
 let v:=v0+x.2.length
 match p with
 |.top t=>if Nat.blt t x.1.n then ZA ({x.1 with tmps:=x.1.tmps.set t .top},x.2)else ZE
 |.tmpI t k=>if Nat.blt t x.1.n then ZA ({x.1 with tmps:=x.1.tmps.set t (.one (.int k (.w v)))},x.2++[.int k])else ZE
 |.tmpB t=>if Nat.blt t x.1.n then ZA ({x.1 with tmps:=x.1.tmps.set t (.one (.bool (.s v)))},x.2++[.bool])else ZE
 |.tmpA t ks=>if Nat.blt t x.1.n then ZA ({x.1 with tmps:=x.1.tmps.set t (.agg (qY v ks).1)},x.2++(qY v ks).2)else ZE
 |.tmpS t ks ty=>if Nat.blt t x.1.n then ZA (⟨x.1.tmps.set t (.one (.sl x.1.heap.length)),x.1.heap++[.row ⟨ks,ty,.g v,ZB,CR ks⟩]⟩,x.2++[.list ks])else ZE
 |.tmpX t ks ty=>if Nat.blt t x.1.n then ZA (⟨x.1.tmps.set t (.one (.ptr x.1.heap.length 0)),x.1.heap++[.box (qY v ks).1 ty]⟩,x.2++(qY v ks).2)else ZE
 |.cI b o k=>(Tz x.1.heap b o (.int k (.w v))).map fun h=>(⟨x.1.tmps,h⟩,x.2++[.int k])
 |.celB b o=>(Tz x.1.heap b o (.bool (.s v))).map fun h=>(⟨x.1.tmps,h⟩,x.2++[.bool])
 |.only ks=>ZA (⟨x.1.tmps.only ks,x.1.heap⟩,x.2)
 |.cels b o ks=>(akm x.1.heap b o (qY v ks).1).map fun h=>(⟨x.1.tmps,h⟩,x.2++(qY v ks).2)
 |.cT b o ks ty=>(Tz x.1.heap b o (.sl x.1.heap.length)).map fun h=>(⟨x.1.tmps,h++[.row ⟨ks,ty,.g v,ZB,CR ks⟩]⟩,x.2++[.list ks])
 |.celV b o ks ty=>(Tz x.1.heap b o (.sl x.1.heap.length)).map fun h=>(⟨x.1.tmps,h++[.row ⟨ks,ty,.g v,ZC,CR ks⟩]⟩,x.2++[.list ks])
 |.row id=>match x.1.heap[id]? with
   |some (.row r)=>ZA (⟨x.1.tmps,x.1.heap.set id (.row {r with l:=.g v})⟩,x.2++[.list r.ks])
   |_=>ZE
 |.gone id=>if id<x.1.heap.length then ZA (⟨x.1.tmps,x.1.heap.set id .gone⟩,x.2)else ZE
 |.ask=>ZE
def Ky(v0:Nat):List Pl->St×List VK->Option (St×List VK)
 |[],x=>ZA x
 |p::l,x=>(Ng v0 p x).bind (Ky v0 l)
def xI:List CE->List C->Option (List E)
 |[],[]=>ZA []
 |some k::ks,.int k' e::cs=>if bJ k k' then(xI ks cs).map (e::·)else ZE
 |none::ks,.bool e::cs=>(xI ks cs).map (e::·)
 |_,_=>ZE
def W3(heap:List Ob):C->Option (E×Option Nat)
 |.sl id=>(Ku heap id).map fun r=>(r.l,ZA id)
 |.nsl=>ZA (.ln,ZE)
 |_=>ZE
def argP(p:Pl)(s:St):Option (List E×List (Option Nat)):=
 match p with
 |.top _=>ZA ([],[])
 |.tmpI t _=>match s.tmps.get? t with|some (.one (.int _ e))=>ZA ([e],[])|_=>ZE
 |.tmpB t=>match s.tmps.get? t with|some (.one (.bool e))=>ZA ([e],[])|_=>ZE
 |.tmpA t ks=>match s.tmps.get? t with|some (.agg cs)=>(xI ks cs).map fun l=>(l,[])|_=>ZE
 |.tmpS t _ _=>match s.tmps.get? t with|some (.one c)=>(W3 s.heap c).map fun x=>([x.1],[x.2])|_=>ZE
 |.tmpX t ks _=>match s.tmps.get? t with|some (.one (.ptr b 0))=>(match s.heap[b]? with|some (.box cs _)=>(xI ks cs).map fun l=>(l,[ZA b])|_=>ZE)|_=>ZE
 |.cI b o _=>match Kt s.heap b o with|some (.int _ e)=>ZA ([e],[])|_=>ZE
 |.celB b o=>match Kt s.heap b o with|some (.bool e)=>ZA ([e],[])|_=>ZE
 |.only _=>ZA ([],[])
 |.cels b o ks=>match s.heap[b]? with|some (.box cs _)=>((Sn cs o ks.length).bind (xI ks)).map fun l=>(l,[])|_=>ZE
 |.cT b o _ _=>match Kt s.heap b o with|some c=>(W3 s.heap c).map fun x=>([x.1],[x.2])|none=>ZE
 |.celV b o _ _=>match Kt s.heap b o with|some c=>(W3 s.heap c).map fun x=>([x.1],[x.2])|none=>ZE
 |.row id=>(Ku s.heap id).map fun r=>([r.l],[])
 |.gone _=>ZA ([],[])
 |.ask=>ZE
def Ni:List Pl->St->Option (List E×List (Option Nat))
 |[],_=>ZA ([],[])
 |p::l,s=>match argP p s,Ni l s with
   |some x,ZA y=>ZA (x.1++y.1,x.2++y.2)
   |_,_=>ZE
structure Mt where
 v0:Nat
 vks:List VK
 θ:List E
 h0:Nat
 ex:List (Option Nat)
 hd:List Ob
def Mt.sig(m:Mt)(a:Nat):Option (Option Nat):=match m.hd[a]? with
 |some (.box _ _)|some (.row _)|some (.loop _)=>if a<m.h0 then ZA (ZA a)else m.ex[a-m.h0]?
 |_=>ZE
def Mt.okI(m:Mt)(e e':E):Bool:=
 match e with
 |.w n=>if m.v0<=n then(match m.vks[n-m.v0]?,m.θ[n-m.v0]? with|some (.int _),ZA t=>t.same e'|_,_=>ZC)else(match e' with|.w n'=>ZJ n n'|_=>ZC)
 |e=>e.same e'&&e.sc m.v0
def Mt.okB(m:Mt)(e e':E):Bool:=
 match e with
 |.s n=>if m.v0<=n then(match m.vks[n-m.v0]?,m.θ[n-m.v0]? with|some .bool,ZA t=>t.same e'|_,_=>ZC)else(match e' with|.s n'=>ZJ n n'|_=>ZC)
 |e=>e.same e'&&e.sc m.v0
def Mt.okR(m:Mt)(e e':E):Bool:=
 match e with
 |.g n=>if m.v0<=n then(match m.vks[n-m.v0]?,m.θ[n-m.v0]? with|some (.list _),ZA t=>t.same e'|_,_=>ZC)else(match e' with|.g n'=>ZJ n n'|_=>ZC)
 |e=>e.same e'&&e.sc m.v0
def Mt.okId(m:Mt)(b b':Nat):Bool:=match m.sig b with|some (ZA x)=>ZJ x b'|_=>ZC
def Mt.okP(m:Mt):Option (Bool×Nat×Nat)->Option (Bool×Nat×Nat)->Bool
 |none,ZE=>ZB
 |some (ZB,b,o),ZA (ZB,b',o')=>ZJ o o'&&m.okId b b'
 |some (ZC,b,o),ZA (ZC,b',o')=>ZJ o o'&&ZJ b b'
 |_,_=>ZC
def Mt.okPs(m:Mt):List (Option (Bool×Nat×Nat))->List (Option (Bool×Nat×Nat))->Bool
 |[],[]=>ZB
 |x::l,y::r=>m.okP x y&&m.okPs l r
 |_,_=>ZC
def Mt.okC(m:Mt)(c d:C):Bool:=
 match c with
 |.int k e=>(match d with|.int k' e'=>bJ k k'&&m.okI e e'|_=>ZC)
 |.bool e=>(match d with|.bool e'=>m.okB e e'|_=>ZC)
 |.ptr b o=>(match d with|.ptr b' o'=>ZJ o o'&&m.okId b b'|_=>ZC)
 |.fp b o=>(match d with|.fp b' o'=>ZJ b b'&&ZJ o o'|_=>ZC)
 |.fn f=>(match d with|.fn f'=>ZJ f f'|_=>ZC)
 |.np=>(match d with|.np=>ZB|_=>ZC)
 |.undef=>(match d with|.undef=>ZB|_=>ZC)
 |.sl id=>(match d with|.sl Ji=>m.okId id Ji|.nsl=>(match m.sig id with|some ZE=>ZB|_=>ZC)|_=>ZC)
 |.ep id z e o=>(match d with|.ep Ji z' e' o'=>m.okId id Ji&&(ZJ z z'&&(m.okI e e'&&ZJ o o'))|_=>ZC)
 |.nsl=>(match d with|.nsl=>ZB|_=>ZC)
 |.nf=>(match d with|.nf=>ZB|_=>ZC)
 |.nmp=>(match d with|.nmp=>ZB|_=>ZC)
 |.pe b o n sz e off=>(match d with|.pe b' o' n' Qg e' off'=>m.okId b b'&&(ZJ o o'&&(ZJ n n'&&(ZJ sz Qg&&(m.okI e e'&&ZJ off off'))))|_=>ZC)
 |.wn id sz lo hi mx=>(match d with|.wn Ji Qg Vg Bg Qe=>m.okId id Ji&&(ZJ sz Qg&&(m.okI lo Vg&&(m.okI hi Bg&&(match mx,Qe with|none,ZE=>ZB|some x,ZA y=>m.okI x y|_,_=>ZC))))|_=>ZC)
 |.aw b o n sz lo hi mx=>(match d with|.aw b' o' n' Qg Vg Bg Qe=>m.okId b b'&&(ZJ o o'&&(ZJ n n'&&(ZJ sz Qg&&(m.okI lo Vg&&(m.okI hi Bg&&m.okI mx Qe)))))|_=>ZC)
 |.str e=>(match d with|.str e'=>m.okR e e'|_=>ZC)
 |.mp id=>(match d with|.mp Ji=>m.okId id Ji|_=>ZC)
 |.itp id mid=>(match d with|.itp Ji mid'=>m.okId id Ji&&m.okId mid mid'|_=>ZC)
 |.yld id=>(match d with|.yld Ji=>m.okId id Ji|_=>ZC)
 |.clo g fs ps=>(match d with|.clo g' fs' ps'=>ZJ g g'&&(m.okPs fs fs'&&m.okPs ps ps')|_=>ZC)
def Mt.okCs(m:Mt):List C->List C->Bool
 |[],[]=>ZB
 |c::cs,d::ds=>m.okC c d&&m.okCs cs ds
 |_,_=>ZC
def Mt.okW(m:Mt):List C->List C->Nat->List VK->List E->Bool
 |[],[],_,_,_=>ZB
 |c::cs,d::ds,n,vs,ts=>match c with
   |.int k (.w i)=>bif ZJ i n then(match vs with
    |.int _::Qi=>(match ts with
      |t::ts'=>(match d with
        |.int k' e'=>bif bJ k k'&&t.same e' then m.okW cs ds (n+1) Qi ts' else ZC
        |_=>ZC)
      |[]=>ZC)
    | _=>ZC)
     else(bif m.okC (.int k (.w i)) d then(bif Nat.ble m.v0 i then m.okW cs ds (i+1) (m.vks.drop (i+1-m.v0)) (m.θ.drop (i+1-m.v0))else m.okW cs ds n vs ts)else ZC)
   |c=>bif m.okC c d then m.okW cs ds n vs ts else ZC
 |_,_,_,_,_=>ZC
def sD{α:Type}{l:List α}{a:α}{r:List α}(h:l.drop i=a::r):l[i]? =ZA a/\l.drop (i+1)=r:=by
 constructor
 .have:=List.getElem?_drop (xs:=l) (i:=i) (j:=0);rw[h]at this;simpa using this.symm
 .rw[<-List.drop_drop,h];rfl
def wP{m:Mt}:∀{cs ds:List C} {n:Nat} {vs:List VK} {ts:List E},m.v0<=n->m.vks.drop (n-m.v0)=vs->m.θ.drop (n-m.v0)=ts->m.okW cs ds n vs ts=ZB->m.okCs cs ds=ZB
 |[],[],_,_,_,_,_,_,_=>rfl
 |[],_::_,_,_,_,_,_,_,h=>by cases h
 |_::_,[],_,_,_,_,_,_,h=>by cases h
 |c::cs,d::ds,n,vs,ts,hn,h1,h2,h=>by
   have step:∀{c:C},(bif m.okC c d then m.okW cs ds n vs ts else ZC)=ZB->m.okCs (c::cs) (d::ds)=ZB:=fun {c} h=>by
    cases hc:m.okC c d with
    |false=>rw[hc]at h;cases h
    |true=>rw[hc]at h;simp only[Mt.okCs,hc,Bool.true_and];exact wP hn h1 h2 h
   unfold Mt.okW at h;split at h
   .rename_i k i;cases hb:ZJ i n with
    |false=>
      rw[hb]at h;simp only[cond_false]at h;cases hc:m.okC (.int k (.w i)) d with
      |false=>rw[hc]at h;cases h
      |true=>
        rw[hc]at h;simp only[Mt.okCs,hc,Bool.true_and];cases hl:Nat.ble m.v0 i with
        |false=>rw[hl]at h;exact wP hn h1 h2 h
        |true=>rw[hl]at h;exact wP (Nat.le_succ_of_le (Nat.le_of_ble_eq_true hl)) rfl rfl h
    |true=>
      rw[hb]at h;simp only[cond_true]at h;have:=Ak hb;subst this;split at h
      .rename_i Qi;split at h
       .rename_i t ts';split at h
        .rename_i k' e';cases hc:bJ k k'&&t.same e' with
         |false=>rw[hc]at h;cases h
         |true=>
           rw[hc]at h;rw[ne]at hc;obtain⟨a1,a2⟩:=sD h1;obtain⟨b1,b2⟩:=sD h2;have e1:i+1-m.v0=i-m.v0+1:=Fn;have hk:m.okC (.int k (.w i)) (.int k' e')=ZB:=by simp only[Mt.okC,Mt.okI,ae hn,a1,b1,hc.1,hc.2,Bool.and_self]
           simp only[Mt.okCs,hk,Bool.true_and];exact wP (Nat.le_succ_of_le hn) (by rw[e1];exact a2) (by rw[e1];exact b2) h
        .exact Xo
       .exact Xo
      .exact Xo
   .exact step h
def Mt.okL(m:Mt)(cs ds:List C):Bool:=m.okW cs ds m.v0 m.vks m.θ
def amM{m:Mt}{ds:List C}(h:m.okL cs ds=ZB):m.okCs cs ds=ZB:=wP (ZK _) (by simp) (by simp) h
def Mt.okT(m:Mt):List (Bool×List C)->List (Bool×List C)->Bool
 |[],[]=>ZB
 |(t,cs)::l,(t',ds)::r=>(t==t')&&(m.okCs cs ds&&m.okT l r)
 |_,_=>ZC
def Mt.okV(m:Mt):V->V->Bool
 |.top,_=>ZB
 |.one c,.one d=>m.okC c d
 |.agg cs,.agg ds=>m.okL cs ds
 |.tup l,.tup r=>m.okT l r
 |_,_=>ZC
def Mt.okLf(m:Mt)(v:V):TT->Bool
 |.u u=>m.okV v u
 |.node l r=>match v with
   |.top=>ZB
   |v=>m.okLf v l&&m.okLf v r
def Mt.okTT(m:Mt):TT->TT->Bool
 |.u v,t=>m.okLf v t
 |.node l r,t=>m.okTT l t.fst&&m.okTT r t.snd
def Mt.okOld(m:Mt):List (TT×Nat)->List (TT×Nat)->Bool
 |[],[]=>ZB
 |(t,n)::l,(t',n')::l'=>ZJ n n'&&(m.okTT t t'&&m.okOld l l')
 |_,_=>ZC
def Mt.okVs(m:Mt)(l r:TM):Bool:=ZJ l.n r.n&&(m.okTT l.cur r.cur&&m.okOld l.old r.old)
def Mt.okK(m:Mt):RK->RK->Bool
 |.sl,.sl=>ZB
 |.map a b c,.map a' b' c'=>ZJ a a'&&((b==b')&&(c==c'))
 |.it mid n,.it mid' n'=>m.okId mid mid'&&m.okI n n'
 |.ev,.ev=>ZB
 |.tab,.tab=>ZB
 |_,_=>ZC
def afv:Option Sig->Option Sig->Bool
 |none,ZE=>ZB
 |some .normal,ZA .normal=>ZB
 |some .ret,ZA .ret=>ZB
 |some (.exit a),ZA (.exit b)=>ZJ a b
 |_,_=>ZC
def LS.same:LS->LS->Bool
 |.ready,.ready=>ZB
 |.busy,.busy=>ZB
 |.done,.done=>ZB
 |_,_=>ZC
def Xj(x y:Lp):Bool:=LS.same x.st y.st&&afv x.pend y.pend
def ahs{x:Lp}(h:Xj x y=ZB):x=y:=by
 obtain⟨a,b⟩:=x;obtain⟨c,d⟩:=y;simp only[Xj,ne]at h;have h1:a=c:=by have:=h.1;cases a<;>cases c<;>first|rfl|cases this
 have h2:b=d:=by
  have:=h.2;rcases b with _|(_|_|_)<;>rcases d with _|(_|_|_)<;>first|rfl|(simp[afv]at this;done)|skip
  rw[Ak this]
 rw[h1,h2]
def Mt.okOb(m:Mt)(heap:List Ob)(a:Nat):Ob->Bool
 |.gone=>ZB
 |.box cs ty=>match m.sig a with
   |some (ZA b)=>(match heap[b]? with|some (.box ds Pj)=>ZJ ty Pj&&m.okL cs ds|_=>ZC)
   |_=>ZC
 |.row r=>match m.sig a with
   |some (ZA b)=>(match heap[b]? with|some (.row q)=>di r.ks q.ks&&(ZJ r.ty q.ty&&((r.own==q.own)&&(m.okR r.l q.l&&m.okK r.kd q.kd)))|_=>ZC)
   |some ZE=>(match r.ks with |[]=>ZC|_::_=>m.okR r.l .ln&&r.kd.fits r.ks)
   |none=>ZC
 |.loop y=>match m.sig a with
   |some (ZA b)=>(match heap[b]? with|some (.loop y')=>Xj y y'|_=>ZC)
   |_=>ZC
def Mt.okHeap(m:Mt)(heap:List Ob):Nat->List Ob->Bool
 |_,[]=>ZB
 |a,ob::l=>m.okOb heap a ob&&m.okHeap heap (a+1) l
def Ob.isGone:Ob->Bool
 |.gone=>ZB
 |_=>ZC
def Is(hd:List Ob)(h0:Nat):List (Option Nat)->Bool
 |[]=>ZB
 |none::l=>Is hd h0 l
 |some b::l=>(if b<h0 then(match hd[b]? with|some ob=>ob.isGone|none=>ZC)else ZB)&&((l.all fun x=>match x with|some b'=>!ZJ b b'|none=>ZB)&&Is hd h0 l)
def TR(heap:List Ob)(b:Nat):Bool:=match heap[b]? with
 |some (.row r)=>!r.own
 |_=>ZC
def TB(heap:List Ob):Option Nat->Option Nat
 |some b=>if TR heap b then ZE else ZA b
 |none=>ZE
def mw(vk:List VK):List VK->List E->Bool
 |[],[]=>ZB
 |.int k::ks,e::es=>e.rng vk k&&mw vk ks es
 |.bool::ks,_::es=>mw vk ks es
 |.list ks0::ks,e::es=>e.lok vk ks0&&mw vk ks es
 |_,_=>ZC
def yO(vk:List VK):List VK->List E->Rm->Bool
 |[],[],_=>ZB
 |.int k::ks,e::es,m=>match e.rngW vk k m with
   |some m'=>yO vk ks es m'
   |none=>ZC
 |.bool::ks,_::es,m=>yO vk ks es m
 |.list ks0::ks,e::es,m=>e.lok vk ks0&&yO vk ks es m
 |_,_,_=>ZC
def Pc(vk:List VK)(vks:List VK)(θ:List E):Bool:=yO vk vks θ (Rm.ini vk)
def mt{vk:List VK}:∀{vks:List VK} {θ:List E} {m:Rm},m.ok vk->yO vk vks θ m=ZB->mw vk vks θ=ZB
 |[],[],_,_,_=>rfl
 |.int k::ks,e::es,m,hm,h=>by
   simp only[yO]at h;split at h
   next m' hw=>obtain⟨h1,h2⟩:=yP hm hw;simp only[mw,h1,mt h2 h,Bool.and_self]
   .exact Xo
 |.bool::ks,_::es,m,hm,h=>mt (vks:=ks) (θ:=es) hm h
 |.list ks0::ks,e::es,m,hm,h=>by simp only[yO,ne]at h;simp only[mw,h.1,mt hm h.2,Bool.and_self]
def zc(v0:Nat)(hd:List Ob):Nat->List VK->Bool
 |_,[]=>ZB
 |n,.list ks::l=>(hd.any fun ob=>match ob with|.row r=>(match r.l with|.g m=>ZJ m (v0+n)|_=>ZC)&&di r.ks ks|_=>ZC)&&zc v0 hd (n+1) l
 |n,_::l=>zc v0 hd (n+1) l
def Mt.ok(m:Mt)(cx:Cx)(vk:List VK)(tmps:TM)(s:St):Bool:=
 (m.okVs tmps s.tmps&&m.okHeap s.heap 0 m.hd)&&(Is m.hd m.h0 (m.ex.map (TB s.heap))&&((cx.fb.all fun cs=>m.okCs cs cs)&&(Pc vk m.vks m.θ&&zc m.v0 m.hd 0 m.vks)))
section
variable {m:Mt}{U U':Env}{j:J}
def lr(hg:Giv m.v0 m.vks m.θ U U'){e e':E}(h:m.okI e e'=ZB):e.I U'=e'.I U:=by
 unfold Mt.okI at h;split at h
 .rename_i n;split at h
  .rename_i hn;split at h
   next k t hk ht=>have h1:=hg.i _ _ t hk ht;rw[show m.v0+(n-m.v0)=n by omega]at h1;rw[<-E.same_eq h];exact h1
   .exact Xo
  .rename_i hn;split at h
   next n'=>rw[<-Ak h];exact(hg.ag n Fn).1.symm
   .exact Xo
 .rw[ne]at h;rw[<-E.same_eq h.1];exact(E.sc_eq hg.ag _ h.2).1.symm
def asx(hg:Giv m.v0 m.vks m.θ U U'){e e':E}(h:m.okB e e'=ZB):e.B U'=e'.B U:=by
 unfold Mt.okB at h;split at h
 .rename_i n;split at h
  .rename_i hn;split at h
   next t hk ht=>have h1:=hg.b _ t hk ht;rw[show m.v0+(n-m.v0)=n by omega]at h1;rw[<-E.same_eq h];exact h1
   .exact Xo
  .rename_i hn;split at h
   next n'=>rw[<-Ak h];exact(hg.ag n Fn).2.1.symm
   .exact Xo
 .rw[ne]at h;rw[<-E.same_eq h.1];exact(E.sc_eq hg.ag _ h.2).2.1.symm
def Xd(hg:Giv m.v0 m.vks m.θ U U'){e e':E}(h:m.okR e e'=ZB):e.R U'=e'.R U:=by
 unfold Mt.okR at h;split at h
 .rename_i n;split at h
  .rename_i hn;split at h
   next ks t hk ht=>have h1:=hg.l _ _ t hk ht;rw[show m.v0+(n-m.v0)=n by omega]at h1;rw[<-E.same_eq h];exact h1
   .exact Xo
  .rename_i hn;split at h
   next n'=>rw[<-Ak h];exact(hg.ag n Fn).2.2.symm
   .exact Xo
 .rw[ne]at h;rw[<-E.same_eq h.1];exact(E.sc_eq hg.ag _ h.2).2.2.2.1.symm
def nilSV:SV:=⟨ZE,0,0,[]⟩
def lL{o:Bool}{k:Nat}:¬nilSV.blk o=ZA k:=fun h=>by have:=ay h;cases this
def Mt.J(m:Mt)(j:J):J:=⟨fun b=>match m.sig b with|some (ZA x)=>j.b x|_=>ZE,fun id=>match m.sig id with|some (ZA x)=>j.s x|some ZE=>ZA nilSV|none=>ZE,j.f,⟨fun b=>match m.sig b with|some (ZA x)=>j.g.y x|_=>ZE,j.g.z⟩⟩
def lm{b b':Nat}(h:m.okId b b'=ZB):(m.J j).b b=j.b b'/\(m.J j).s b=j.s b':=by
 unfold Mt.okId at h;split at h
 next x hx=>rw[<-Ak h];simp only[Mt.J,hx,and_self]
 .exact Xo
def asw{b b':Nat}(h:m.okId b b'=ZB):(m.J j).g.y b=j.g.y b':=by
 unfold Mt.okId at h;split at h
 next x hx=>rw[<-Ak h];simp only[Mt.J,hx]
 .exact Xo
def asu{x y:Option (Bool×Nat×Nat)}(h:m.okP x y=ZB)(hd:Es j y=ZA v):Es (m.J j) x=ZA v:=by
 unfold Mt.okP at h;split at h
 .exact hd
 .simp only[ne]at h;have:=Ak h.1;subst this;simp only[Es]at hd ⊢;rw[(lm h.2).1];exact hd
 .simp only[ne]at h;rw[Ak h.1,Ak h.2];exact hd
 .exact Xo
def yT:∀{l r:List (Option (Bool×Nat×Nat))},m.okPs l r=ZB->∀{vs:List Value},fg j r=ZA vs->fg (m.J j) l=ZA vs
 |[],[],_,vs,hd=>hd
 |x::l,y::r,h,vs,hd=>by
   simp only[Mt.okPs,ne]at h;simp only[fg]at hd ⊢;cases hx:Es j y with
   |none=>rw[hx]at hd;cases hd
   |some v=>
     cases hl:fg j r with
     |none=>rw[hx,hl]at hd;cases hd
     |some us=>rw[hx,hl]at hd;rw[asu h.1 hx,yT h.2 hl];exact hd
def R9(U U':Env):RK->RK->Prop
 |.sl,.sl=>True
 |.map a b c,.map a' b' c'=>a=a'/\b=b'/\c=c'
 |.it _ n,.it _ n'=>n.I U'=n'.I U
 |.ev,.ev=>True
 |.tab,.tab=>True
 |_,_=>False
def asv(hg:Giv m.v0 m.vks m.θ U U'){a b:RK}(h:m.okK a b=ZB):R9 U U' a b:=by
 cases a<;>cases b<;>simp only[Mt.okK]at h<;>first|exact Bool.noConfusion h|skip
 .trivial
 .simp only[ne,cQ]at h;exact⟨Ak h.1,h.2.1,h.2.2⟩
 .simp only[ne]at h;exact lr hg h.2
 .trivial
 .trivial
def RowOk.swap{base:Nat}{v:SV}{r q:RowOb}(e1:r.ks=q.ks)(e2:r.ty=q.ty)(e3:r.own=q.own)(e4:r.l.R U'=q.l.R U)(e5:R9 U U' r.kd q.kd)(h:RowOk U base w v q):RowOk U' base w v r:=by
 rcases h.cases with⟨hk,h6⟩|⟨hk,h6⟩|⟨hk,h6⟩
 .have B2:r.kd=.sl:=by
   rw[hk]at e5;cases hr:r.kd<;>rw[hr]at e5<;>first|rfl|exact e5.elim
  refine SlOk.row ⟨?_,?_,?_,by rw[e3];exact h6.lt,fun ho=> ?_,?_⟩ B2
  .rw[e4];exact h6.n
  .rw[e1,e4];exact h6.rows
  .rw[e1];exact h6.pos
  .rw[e1,e2,e4];exact h6.own (by rw[<-e3];exact ho)
  .rw[e1,e4];exact h6.rd
 .obtain⟨g,ob,h1,h2,h3,h4⟩:=h6.at';refine HdOk.row ⟨by rw[e3];exact h6.own,by rw[e1,e4];exact h6.rows,h6.c,g,ob,h1,h2,h3,?_⟩ ?_
  .unfold Le at h4 ⊢;cases hr:r.kd<;>cases hq:q.kd<;>rw[hr,hq]at e5<;>first|exact e5.elim|skip
   .rw[hq]at hk;cases hk
   .rw[hq]at h4;obtain⟨rfl,rfl,rfl⟩:=e5;rw[e1,e4];exact h4
   .rw[hq]at h4;have e5':_=_:=e5;dsimp only at h4 ⊢;rw[e1,e4,e5'];exact h4
   .rw[hq]at hk;cases hk
   .rw[hq]at h4;exact h4
  .cases hr:r.kd<;>cases hq:q.kd<;>rw[hr,hq]at e5<;>first|exact e5.elim|rfl|(rw[hq]at hk;cases hk)
 .have B2:r.kd=.ev:=by
   rw[hk]at e5;cases hr:r.kd<;>rw[hr]at e5<;>first|rfl|exact e5.elim
  obtain⟨ins,g1,g2,g3,g4⟩:=h6.at';exact EvOk.row ⟨by rw[e1];exact h6.ks,by rw[e4];exact h6.n,by rw[e1,e4];exact h6.rows,by rw[e3];exact h6.lt,by rw[e3];exact h6.zb,ins,by rw[e4];exact g1,by rw[e2,e3,e4];exact g2,by rw[e4];exact g3,by rw[e4];exact g4⟩ B2
def Xe(hg:Giv m.v0 m.vks m.θ U U'){d:C}(h:m.okC c d=ZB)(hd:d.den U j=ZA v):c.den U' (m.J j)=ZA v:=by
 cases c with
 |int k e=>
   simp only[Mt.okC]at h;split at h
   .simp only[ne]at h;simp only[C.den]at hd ⊢;rw[ax h.1,lr hg h.2];exact hd
   .exact Xo
 |bool e=>
   simp only[Mt.okC]at h;split at h
   .simp only[C.den]at hd ⊢;rw[asx hg h];exact hd
   .exact Xo
 |ptr b o=>
   simp only[Mt.okC]at h;split at h
   .simp only[ne]at h;simp only[C.den]at hd ⊢;rw[Ak h.1,(lm h.2).1];exact hd
   .exact Xo
 |fp b o=>
   simp only[Mt.okC]at h;split at h
   .simp only[ne]at h;rw[Ak h.1,Ak h.2];exact hd
   .exact Xo
 |fn f=>
   simp only[Mt.okC]at h;split at h
   .rw[Ak h];exact hd
   .exact Xo
 |np=>simp only[Mt.okC]at h;split at h<;>first|exact hd|cases h
 |undef=>simp only[Mt.okC]at h;split at h<;>first|exact hd|cases h
 |nsl=>simp only[Mt.okC]at h;split at h<;>first|exact hd|cases h
 |nf=>simp only[Mt.okC]at h;split at h<;>first|exact hd|cases h
 |nmp=>simp only[Mt.okC]at h;split at h<;>first|exact hd|cases h
 |clo g fs ps=>
   simp only[Mt.okC]at h;split at h
   next g' fs' ps'=>simp only[ne]at h;obtain⟨x,y,hx,hy,rfl⟩:=gC (show E8 g' (fg j fs') (fg j ps')=ZA v from hd);simp only[C.den,yT h.2.1 hx,yT h.2.2 hy,E8,Ak h.1]
   .exact Xo
 |sl id=>
   simp only[Mt.okC]at h;split at h
   .simp only[C.den]at hd ⊢;rw[(lm h).2];exact hd
   .split at h
    next hs=>cases hd;simp only[C.den,Mt.J,hs];rfl
    .exact Xo
   .exact Xo
 |pe b o n sz e off=>
   simp only[Mt.okC]at h;split at h
   .simp only[ne]at h;simp only[C.den]at hd ⊢;rw[(lm h.1).1,Ak h.2.1,Ak h.2.2.2.1,lr hg h.2.2.2.2.1,Ak h.2.2.2.2.2];exact hd
   .exact Xo
 |yld id=>
   simp only[Mt.okC]at h;split at h
   .simp only[C.den]at hd ⊢;rw[asw h];exact hd
   .exact Xo
 |mp id=>
   simp only[Mt.okC]at h;split at h
   .simp only[C.den]at hd ⊢;rw[(lm h).2];exact hd
   .exact Xo
 |wn id sz lo hi mx=>
   simp only[Mt.okC]at h;split at h
   .rename_i Ji Qg Vg Bg Qe;simp only[ne]at h;obtain⟨h1,h2,h3,h4,h5⟩:=h;have hm:∀c,O3 U' mx c=O3 U Qe c:=fun c=>by
     cases mx<;>cases Qe<;>first|rfl|exact Bool.noConfusion h5|(simp only[O3,lr hg h5])
    simp only[C.den]at hd ⊢;simp only[(lm h1).2,Ak h2,lr hg h3,lr hg h4,hm];exact hd
   .exact Xo
 |aw b o n sz lo hi mx=>
   simp only[Mt.okC]at h;split at h
   .simp only[ne]at h;obtain⟨h1,h2,h3,h4,h5,h6,h7⟩:=h;simp only[C.den]at hd ⊢;rw[(lm h1).1,Ak h2,Ak h3,Ak h4,lr hg h5,lr hg h6,lr hg h7];exact hd
   .exact Xo
 |str e=>
   simp only[Mt.okC]at h;split at h
   .simp only[C.den]at hd ⊢;rw[Xd hg h];exact hd
   .exact Xo
 |itp id mid=>
   simp only[Mt.okC]at h;split at h
   .simp only[ne]at h;simp only[C.den]at hd ⊢;rw[(lm h.1).2,(lm h.2).2];exact hd
   .exact Xo
 |ep id z e o=>
   simp only[Mt.okC]at h;split at h
   .simp only[ne]at h;simp only[C.den]at hd ⊢;rw[(lm h.1).2,Ak h.2.1,lr hg h.2.2.1,Ak h.2.2.2];exact hd
   .exact Xo
def qn(hg:Giv m.v0 m.vks m.θ U U'):∀{cs ds:List C},m.okCs cs ds=ZB->∀{vs:List Value},Af U j ds=ZA vs->Af U' (m.J j) cs=ZA vs
 |[],[],_,vs,h=>h
 |c::cs,d::ds,h,vs,hd=>by
   simp only[Mt.okCs,ne]at h;simp only[Af]at hd ⊢;cases hc:d.den U j with
   |none=>rw[hc]at hd;cases hd
   |some v=>
     cases hl:Af U j ds with
     |none=>rw[hc,hl]at hd;cases hd
     |some l=>rw[hc,hl]at hd;rw[Xe hg h.1 hc,qn hg h.2 hl];exact hd
def amL(hg:Giv m.v0 m.vks m.θ U U'):∀{cs ds:List (Bool×List C)},m.okT cs ds=ZB->∀{vs:List Value},cu U j ds=ZA vs->cu U' (m.J j) cs=ZA vs
 |[],[],_,vs,h=>h
 |(t,cs)::l,(t',ds)::r,h,vs,hd=>by
   simp only[Mt.okT,ne,cQ]at h;obtain⟨rfl,h1,h2⟩:=h;simp only[cu]at hd ⊢;cases hc:BJ U j (t,ds)with
   |none=>rw[hc]at hd;cases hd
   |some v=>
     cases hl:cu U j r with
     |none=>rw[hc,hl]at hd;cases hd
     |some us=>
       rw[hc,hl]at hd;have h3:BJ U' (m.J j) (t,cs)=ZA v:=by
        cases t with
        |true=>simp only[BJ,Ay]at hc ⊢;obtain⟨Qi,hv,rfl⟩:=hc;exact⟨Qi,qn hg h1 hv,rfl⟩
        |false=>
          match ds,hc with
          |[d],hc=>
            match cs,h1 with
            |[c],h1=>simp only[Mt.okCs,Bool.and_true]at h1;exact Xe hg h1 hc
            |_::_::_,h1=>simp[Mt.okCs]at h1
       rw[h3,amL hg h2 hl];exact hd
def ast(hg:Giv m.v0 m.vks m.θ U U'){x y:V}(h:m.okV x y=ZB):x=.top\/(y≠.top/\∀{v},y.den U j=ZA v->x.den U' (m.J j)=ZA v):=by
 unfold Mt.okV at h;split at h
 .exact .inl rfl
 .exact .inr ⟨fun e=>(by cases e),fun hd=>Xe hg h hd⟩
 .refine .inr ⟨fun e=>(by cases e),fun hd=> ?_⟩;simp only[V.den,Ay]at hd ⊢;obtain⟨l,hl,rfl⟩:=hd;exact⟨l,qn hg (amM h) hl,rfl⟩
 .refine .inr ⟨fun e=>(by cases e),fun hd=> ?_⟩;simp only[V.den,Ay]at hd ⊢;obtain⟨l,hl,rfl⟩:=hd;exact⟨l,amL hg h hl,rfl⟩
 .exact Xo
def yU{v:V}:∀{t:TT},m.okLf v t=ZB->∀i,m.okV v (t.get i)=ZB
 |.u u,h,i=>h
 |.node l r,h,i=>by
   rw[TT.get_node];by_cases hv:v=.top
   .subst hv;rfl
   .have h':(m.okLf v l&&m.okLf v r)=ZB:=by
     unfold Mt.okLf at h;split at h
     .exact ai rfl hv
     .exact h
    rw[ne]at h';split
    .exact yU h'.1 _
    .exact yU h'.2 _
def ui:∀{t u:TT},m.okTT t u=ZB->∀i,m.okV (t.get i) (u.get i)=ZB
 |.u v,u,h,i=>yU h i
 |.node l r,u,h,i=>by
   simp only[Mt.okTT,ne]at h;rw[TT.get_node];split
   next hi=>rw[<-TT.get_fst u i hi];exact ui h.1 _
   next hi=>rw[<-TT.get_snd u i hi];exact ui h.2 _
def aby:∀{l r:List (TT×Nat)},m.okOld l r=ZB->fi l=fi r/\∀(i:Nat) x y,jf l i=ZA x->jf r i=ZA y->m.okV x y=ZB
 |[],[],_=>⟨rfl,fun i x y h=>by cases h⟩
 |(t,n)::l,(t',n')::l',h=>by
   simp only[Mt.okOld,ne]at h;obtain rfl:=Ak h.1;obtain⟨h1,h2⟩:=aby h.2.2;refine⟨by simp only[fi,h1],fun i x y hx hy=> ?_⟩;unfold jf at hx hy;split at hx
   next hi=>rw[ae hi]at hy;cases hx;cases hy;exact ui h.2.1 i
   next hi=>rw[aa hi]at hy;exact h2 _ x y hx hy
def ap3{l r:TM}(h:m.okVs l r=ZB):l.length=r.length/\∀(i:Nat) x y,l.get? i=ZA x->r.get? i=ZA y->m.okV x y=ZB:=by
 simp only[Mt.okVs,ne]at h;obtain⟨h1,h2,h3⟩:=h;replace h1:=Ak h1;obtain⟨h4,h5⟩:=aby h3;refine⟨by unfold TM.length;rw[h1,h4],fun i x y hx hy=> ?_⟩;unfold TM.get? at hx hy;rw[<-h1]at hy;split at hx
 next hi=>rw[ae hi]at hy;cases hx;cases hy;exact ui h2 i
 next hi=>rw[aa hi]at hy;exact h5 _ x y hx hy
def wQ{heap:List Ob}:∀{l:List Ob} {a:Nat},m.okHeap heap a l=ZB->∀(i:Nat) ob,l[i]? =ZA ob->m.okOb heap (a+i) ob=ZB
 |[],a,_,i,ob,hi=>by simp at hi
 |x::l,a,h,i,ob,hi=>by
   simp only[Mt.okHeap,ne]at h;cases i with
   |zero=>simp at hi;subst hi;exact h.1
   |succ i=>have:=wQ h.2 i ob XS;rwa [show a+(i+1)=a+1+i by omega]
def aiu{hd:List Ob}{h0:Nat}:∀{ex:List (Option Nat)},Is hd h0 ex=ZB->(∀(i:Nat) b,ex[i]? =ZA (ZA b)->b<h0->∃ob,hd[b]? =ZA ob/\ob.isGone=ZB)/\∀(i i':Nat) b,ex[i]? =ZA (ZA b)->ex[i']? =ZA (ZA b)->i=i'
 |[],_=>⟨fun i b h=>by simp at h,fun i i' b h=>by simp at h⟩
 |x::l,h=>by
   have key:Is hd h0 l=ZB/\∀b,x=ZA b->(b<h0->∃ob,hd[b]? =ZA ob/\ob.isGone=ZB)/\∀(i:Nat),l[i]? ≠ZA (ZA b):=by
    cases x with
    |none=>exact⟨h,fun b hb=>by cases hb⟩
    |some b=>
      simp only[Is,ne]at h;refine⟨h.2.2,fun b' hb=> ?_⟩;cases hb;refine⟨fun As=> ?_,fun i hi=> ?_⟩
      .have h1:=h.1;rw[ae As]at h1;split at h1
       next ob IC=>exact⟨ob,IC,h1⟩
       .cases h1
      .have h2:=CB.1 h.2.1 _ (fI hi);simp at h2
   obtain⟨k1,k2⟩:=key;obtain⟨g1,g2⟩:=aiu k1;refine⟨fun i b hi hb=> ?_,fun i i' b hi Bg=> ?_⟩
   .cases i with
    |zero=>simp at hi;exact(k2 b hi).1 hb
    |succ i=>exact g1 i b XS hb
   .cases i with
    |zero=>
      simp at hi;cases i' with
      |zero=>rfl
      |succ i'=>exact ai (by simpa using Bg) ((k2 b hi).2 i')
    |succ i=>
      cases i' with
      |zero=>simp at Bg;exact ai XS ((k2 b Bg).2 i)
      |succ i'=>rw[g2 i i' b XS (by simpa using Bg)]
def afu{heap:List Ob}(h:Is m.hd m.h0 (m.ex.map (TB heap))=ZB){a a' x:Nat}(hv:TR heap x=ZC)(h1:m.sig a=ZA (ZA x))(h2:m.sig a'=ZA (ZA x)):a=a':=by
 obtain⟨g1,g2⟩:=aiu h;have key:∀a,m.sig a=ZA (ZA x)->(a<m.h0/\a=x/\∃ob,m.hd[a]? =ZA ob/\ob.isGone=ZC)\/(m.h0<=a/\(m.ex.map (TB heap))[a-m.h0]? =ZA (ZA x)):=by
  intro a ha;unfold Mt.sig at ha;split at ha
  all_goals first
   |cases ha;done
   | split at ha
     next IC As=>cases ha;exact .inl ⟨As,rfl,_,IC,rfl⟩
     .exact .inr ⟨by omega,by rw[js,ha];simp[TB,hv]⟩
 rcases key a h1 with⟨k1,k2,ob,k3,k4⟩|⟨k1,k2⟩<;>rcases key a' h2 with⟨l1,l2,Vh,l3,l4⟩|⟨l1,l2⟩
 .exact Fn
 .subst k2;obtain⟨ob1,q1,q2⟩:=g1 _ _ l2 k1;rw[k3]at q1;cases q1;rw[k4]at q2;cases q2
 .subst l2;obtain⟨ob1,q1,q2⟩:=g1 _ _ k2 l1;rw[l3]at q1;cases q1;rw[l4]at q2;cases q2
 .have:=g2 _ _ _ k2 l2;omega
def qm{heap:List Ob}(h:m.okHeap heap 0 m.hd=ZB){a:Nat}{ob:Ob}(ha:m.hd[a]? =ZA ob):m.okOb heap a ob=ZB:=by have:=wQ h a ob ha;rwa [bP]at this
def qs{cx:Cx}{tmps:TM}(Aj:m.ok cx vk tmps s=ZB)(hg:Giv m.v0 m.vks m.θ U U')(h:Rel U n X W0 cx.fbs s.fs j a w):Rel U' n X W0 cx.fbs (St.mk tmps m.hd).fs (m.J j) a w:=by
 simp only[Mt.ok,ne]at Aj;obtain⟨⟨hT,hH⟩,hX,hF,-,-⟩:=Aj;obtain⟨hl,Dx⟩:=ap3 hT;have Li:∀{b:Nat} {ob:Ob},s.heap[b]? =ZA ob->∀{cs ty},ob=.box cs ty->s.fs.row b=ZE:=fun hb _ _ e=>by subst e;simp only[St.fs,Ax,BP,hb]
 have Lh:∀{b:Nat} {ob:Ob},s.heap[b]? =ZA ob->∀{r},ob=.row r->s.fs.box b=ZE:=fun hb _ e=>by subst e;simp only[St.fs,Ax,Ce,hb]
 have KC:∀{b cs ty},m.hd[b]? =ZA (.box cs ty)->∃x ds,m.sig b=ZA (ZA x)/\s.heap[x]? =ZA (.box ds ty)/\m.okCs cs ds=ZB:=by
  intro b cs ty hb;have h1:=qm hH hb;simp only[Mt.okOb]at h1;split at h1
  .rename_i x hx;split at h1
   next ds Pj Br=>simp only[ne]at h1;have:=Ak h1.1;subst this;exact⟨x,ds,hx,Br,amM h1.2⟩
   .cases h1
  .cases h1
 have jt:∀{b r},m.hd[b]? =ZA (.row r)->(∃x q,m.sig b=ZA (ZA x)/\s.heap[x]? =ZA (.row q)/\r.ks=q.ks/\r.ty=q.ty/\r.own=q.own/\r.l.R U'=q.l.R U/\m.okK r.kd q.kd=ZB)\/(m.sig b=ZA ZE/\0<r.ks.length/\r.l.R U'=[]/\r.kd=CR r.ks):=by
  intro b r hb;have h1:=qm hH hb;simp only[Mt.okOb]at h1;split at h1
  .rename_i x hx;split at h1
   next q hq=>simp only[ne,cQ]at h1;exact .inl ⟨x,q,hx,hq,cO h1.1,Ak h1.2.1,h1.2.2.1,Xd hg h1.2.2.2.1,h1.2.2.2.2⟩
   .cases h1
  .rename_i hx;split at h1
   .cases h1
   next k ks hk=>rw[ne]at h1;exact .inr ⟨hx,by rw[hk];simp,Xd hg h1.1,RK.fits_eq h1.2⟩
  .cases h1
 have O2:∀{b y},m.hd[b]? =ZA (.loop y)->∃x,m.sig b=ZA (ZA x)/\s.heap[x]? =ZA (.loop y):=by
  intro b y hb;have h1:=qm hH hb;simp only[Mt.okOb]at h1;split at h1
  .rename_i x hx;split at h1
   next y' hy=>exact⟨x,hx,by rw[ahs h1];exact hy⟩
   .cases h1
  .cases h1
 have E2:∀{b},(∀cs ty,m.hd[b]? ≠ZA (.box cs ty))->(∀r,m.hd[b]? ≠ZA (.row r))->(∀y,m.hd[b]? ≠ZA (.loop y))->m.sig b=ZE:=by
  intro b h1 h2 h0;unfold Mt.sig;split
  next hb=>exact ai hb (h1 _ _)
  next hb=>exact ai hb (h2 _)
  next hb=>exact ai hb (h0 _)
  .rfl
 have QV:∀b cs ty,(St.mk tmps m.hd).fs.box b=ZA (cs,ty)->m.hd[b]? =ZA (.box cs ty):=by
  intro b cs ty hb;simp only[St.fs,Ax,Ce]at hb;split at hb
  next Gv Pj Ex=>cases hb;exact Ex
  .cases hb
 have E9:∀b r,(St.mk tmps m.hd).fs.row b=ZA (ZA r)->m.hd[b]? =ZA (.row r):=by
  intro b r hb;simp only[St.fs,Ax,BP]at hb;split at hb
  next r' Ex=>cases hb;exact Ex
  .cases hb
  .cases hb
 have Di:∀{x q},s.heap[x]? =ZA (.row q)->s.fs.row x=ZA (ZA q):=fun hx=>by simp only[St.fs,Ax,BP,hx]
 have LN:∀{x cs ty},s.heap[x]? =ZA (.box cs ty)->s.fs.box x=ZA (cs,ty):=fun hx=>by simp only[St.fs,Ax,Ce,hx]
 have at1:∀t v,(s.fs.tmp t=.top\/(s.fs.tmp t).den U j=ZA v)->((St.mk tmps m.hd).fs.tmp t=.top\/((St.mk tmps m.hd).fs.tmp t).den U' (m.J j)=ZA v):=by
  intro t v h2;rcases bC t tmps.length with h3|h3
  .obtain⟨x,hx⟩:=TM.get_some h3;obtain⟨y,hy⟩:=TM.get_some (m:=s.tmps) (i:=t) Fn;have h5:=Dx t _ _ hx hy;have e1:(St.mk tmps m.hd).fs.tmp t=x:=by simp[St.fs,Ax,hx]
   have e2:s.fs.tmp t=y:=by simp[St.fs,Ax,hy]
   rw[e1];rw[e2]at h2;rcases ast hg (j:=j) h5 with h6|⟨h6,h7⟩
   .exact .inl h6
   .rcases h2 with h2|h2
    .exact ai h2 h6
    .exact .inr (h7 h2)
  .have e1:(St.mk tmps m.hd).fs.tmp t=.one .undef:=by simp only[St.fs,Ax];rw[TM.get_none.2 h3];rfl
   have e2:s.fs.tmp t=.one .undef:=by simp only[St.fs,Ax];rw[TM.get_none.2 Fn];rfl
   rw[e1];rw[e2]at h2;rcases h2 with h2|h2
   .exact XU
   .exact .inr h2
 refine⟨h.defers,h.size,fun t ht=> ?_,fun i v hi=>at1 _ v (h.sav i v hi),fun b cs ty hb=> ?_,fun b hb=> ?_,fun b b' k hb Ex=> ?_,fun b r hb=> ?_,fun b hb=> ?_,fun b b' k r v hb hr hs hk=> ?_,fun b b' r r' v v' k hr ho AV hs Bj hk B2=> ?_,fun b cs hb=> ?_,h.ext,⟨h.gs.at',fun k o b hz e=> ?_,fun k o id r v hz hr hs hc e=> ?_,h.gs.md,h.gs.nd,fun id y hy=> ?_,fun id hF hy=> ?_,fun id r v hr hs p hp=> ?_,fun id r v hr hk hs=> ?_⟩⟩
 .obtain⟨v,h1,h2⟩:=h.tmp t ht;exact⟨v,h1,at1 t v h2⟩
 .obtain⟨x,ds,h1,h2,h3⟩:=KC (QV b cs ty hb);obtain⟨k,vs,h4,h5,h6,h7⟩:=h.box x ds ty (LN h2);exact⟨k,vs,by simp only[Mt.J,h1];exact h4,h5,qn hg h3 h6,h7⟩
 .simp only[Mt.J];cases hs:m.hd[b]? with
  |none=>rw[E2 XK XK XK]
  |some ob=>
    cases ob with
    |box cs ty=>simp[St.fs,Ax,Ce,hs]at hb
    |gone=>rw[E2 XK XK XK]
    |row r=>
      rcases jt hs with⟨x,q,h1,h2,_⟩|⟨h1,_⟩
      .rw[h1];exact h.nob x (Lh h2 rfl)
      .rw[h1]
    |loop y=>obtain⟨x,h1,h2⟩:=O2 hs;rw[h1];exact h.nob x (by simp only[St.fs,Ax,Ce,h2])
 .simp only[Mt.J]at hb Ex;split at hb<;>first|cases hb;done|skip
  rename_i x hx;split at Ex<;>first|cases Ex;done|skip
  rename_i x' F9;have:=h.inj x x' k hb Ex;subst this;refine afu hX ?_ hx F9;unfold TR;split
  next q hq=>have:=h.nob x (Lh hq rfl);rw[hb]at this;cases this
  .rfl
 .rcases jt (E9 b r hb)with⟨x,q,h1,h2,e1,e2,e3,e4,e5⟩|⟨h1,h2,h3,h4⟩
  .obtain⟨v,h5,h6⟩:=h.row x q (Di h2);exact⟨v,by simp only[Mt.J,h1];exact h5,RowOk.swap e1 e2 e3 e4 (asv hg e5) h6⟩
  .refine⟨nilSV,by simp only[Mt.J,h1],?_⟩;rcases cH r.ks with⟨g1,g2⟩|⟨_,g2⟩
   .exact EvOk.row ⟨g1,by rw[h3];rfl,by rw[h3];exact⟨fun r hr=>(by cases hr),by simp⟩,fun k hk=>ai hk lL,fun _ p hp=>Ym,[],by rw[h3];rfl,fun _=>(by rw[h3];exact World.ownsRow_nil _ _ _ _),by rw[h3];exact RdRow.nil,fun i row x hr=>by rw[h3]at hr;simp at hr⟩ (h4.trans g2)
   .refine SlOk.row ⟨by rw[h3];rfl,by rw[h3];exact⟨fun r hr=>(by cases hr),by simp⟩,h2,fun k hk=>ai hk lL,fun _=>(by rw[h3];exact World.ownsRow_nil _ _ _ _),?_⟩ (h4.trans g2);rw[h3];exact RdRow.nil
 .simp only[Mt.J];cases hs:m.hd[b]? with
  |none=>rw[E2 XK XK XK]
  |some ob=>
    cases ob with
    |row r=>simp[St.fs,Ax,BP,hs]at hb
    |gone=>simp[St.fs,Ax,BP,hs]at hb
    |box cs ty=>obtain⟨x,ds,h1,h2,h3⟩:=KC hs;rw[h1];exact h.nor x (Li h2 rfl)
    |loop y=>obtain⟨x,h1,h2⟩:=O2 hs;rw[h1];exact h.nor x (by simp only[St.fs,Ax,BP,h2])
 .simp only[Mt.J]at hb hs;split at hb<;>first|cases hb;done|skip
  rename_i x hx;rcases jt (E9 b' r hr)with⟨x',q,h1,h2,_,_,e3,_⟩|⟨h1,_⟩
  .rw[h1]at hs;exact h.sep x x' k q v hb (Di h2) hs (by rw[<-e3];exact hk)
  .rw[h1]at hs;cases hs;exact lL hk
 .simp only[Mt.J]at hs Bj;rcases jt (E9 b r hr)with⟨x,q,h1,h2,_,_,e3,_⟩|⟨h1,_⟩
  .rcases jt (E9 b' r' AV)with⟨x',q',Hr,h2',_,_,e3',_⟩|⟨Hr,_⟩
   .rw[h1]at hs;rw[Hr]at Bj;have:=h.rsep x x' q q' v v' k (Di h2) (by rw[<-e3];exact ho) (Di h2') hs Bj (by rw[<-e3];exact hk) (by rw[<-e3'];exact B2);subst this;exact afu hX (by simp only[TR,h2];rw[<-e3,ho];rfl) h1 Hr
   .rw[Hr]at Bj;cases Bj;exact ai B2 lL
  .rw[h1]at hs;cases hs;exact ai hk lL
 .obtain⟨k,vs,h1,h2,h3,h4⟩:=h.fb b cs hb;refine⟨k,vs,h1,h2,qn hg ?_ h3,h4⟩;exact CB.1 hF cs (fI hb)
 .simp only[Mt.J]at e;split at e<;>first|cases e;done|skip
  rename_i x hx;exact h.gs.box k o x hz e
 .simp only[Mt.J]at hs;rcases jt (E9 id r hr)with⟨x,q,h1,h2,_,_,e3,_⟩|⟨h1,_⟩
  .rw[h1]at hs;exact h.gs.row k o x q v hz (Di h2) hs (by rw[<-e3];exact hc) (by rw[<-e3];exact e)
  .rw[h1]at hs;cases hs;exact lL e
 .have hy':m.hd[id]? =ZA (.loop y):=by
   simp only[St.fs,Ax,Hh]at hy;split at hy
   next y' hy'=>cases hy;exact hy'
   .cases hy
  obtain⟨x,h1,h2⟩:=O2 hy';obtain⟨rf,o,h3,h4,h5,h6⟩:=h.gs.lp x y (by simp only[St.fs,Ax,Hh,h2]);exact⟨rf,o,h3,by simp only[Mt.J,h1];exact h4,h5,h6⟩
 .simp only[Mt.J];cases hs:m.hd[id]? with
  |none=>rw[E2 XK XK XK]
  |some ob=>
    cases ob with
    |row r=>simp[St.fs,Ax,BP,hs]at hF
    |gone=>simp[St.fs,Ax,BP,hs]at hF
    |loop y=>simp[St.fs,Ax,Hh,hs]at hy
    |box cs ty=>obtain⟨x,ds,h1,h2,h3⟩:=KC hs;rw[h1];exact h.gs.nol x (Li h2 rfl) (by simp only[St.fs,Ax,Hh,h2])
 .simp only[Mt.J]at hs;rcases jt (E9 id r hr)with⟨x,q,h1,h2,_,_,e3,_⟩|⟨h1,_⟩
  .rw[h1]at hs;exact h.gs.ev x q v (Di h2) hs p hp
  .rw[h1]at hs;cases hs;cases hp
 .simp only[Mt.J]at hs;rcases jt (E9 id r hr)with⟨x,q,h1,h2,e1,_,_,e4,e5⟩|⟨h1,_,_,h4⟩
  .rw[h1]at hs;have hq:q.kd=.tab:=by
    rw[hk]at e5;cases Va:q.kd<;>rw[Va]at e5<;>first|rfl|cases e5
   exact(h.gs.tb x q v (Di h2) hq hs).mono e4 e1 (fun _ _ _ hz=>hz) (fun _ _=>rfl)
  .exact ai (h4.symm.trans hk) zj
def Ns(v0:Nat)(θ:List E)(U:Env):Env:=⟨fun i=>if v0<=i then(match θ[i-v0]? with|some t=>t.I U|none=>0)else U.i i,fun i=>if v0<=i then(match θ[i-v0]? with|some t=>t.B U|none=>ZC)else U.b i,fun i=>if v0<=i then(match θ[i-v0]? with|some t=>t.R U|none=>[])else U.l i⟩
def aio(v0:Nat)(vks:List VK)(θ:List E)(U:Env):Giv v0 vks θ U (Ns v0 θ U):=by
 refine⟨fun i hi=> ?_,fun m k t _ ht=> ?_,fun m t _ ht=> ?_,fun m ks t _ ht=> ?_⟩
 .have:¬v0<=i:=by omega
  simp[Ns,this]
 all_goals simp[Ns,ht]
def mu{vk:List VK}:∀{vks:List VK} {θ:List E},mw vk vks θ=ZB->θ.length=vks.length
 |[],[],_=>rfl
 |.int k::ks,e::es,h=>by simp only[mw,ne]at h;simp[mu h.2]
 |.bool::ks,e::es,h=>by simp only[mw]at h;simp[mu h]
 |.list k::ks,e::es,h=>by simp only[mw,ne]at h;simp[mu h.2]
 |.int _::_,[],h=>by cases h
 |.bool::_,[],h=>by cases h
 |.list _::_,[],h=>by cases h
def oP{vk:List VK}(hv:Vk U vk):∀{vks:List VK} {θ:List E},mw vk vks θ=ZB->(∀(i:Nat) ks t,vks[i]? =ZA (.list ks)->θ[i]? =ZA t->(t.R U).length<=maxLen)->okDs vks ((Cv vks θ).D U)
 |[],[],_,_=>trivial
 |.int k::ks,e::es,h,hl=>by simp only[mw,ne]at h;exact⟨E.rng_ok hv e h.1,oP hv h.2 (fun i k t h1 h2=>hl (i+1) k t XC XR)⟩
 |.bool::ks,e::es,h,hl=>by simp only[mw]at h;refine⟨?_,oP hv h (fun i k t h1 h2=>hl (i+1) k t XC XR)⟩;show AD (e.B U)=0\/AD (e.B U)=1;cases e.B U<;>simp[AD]
 |.list k::ks,e::es,h,hl=>by simp only[mw,ne]at h;exact⟨⟨E.lok_ok hv e h.1,hl 0 k e rfl rfl⟩,oP hv h.2 (fun i k t h1 h2=>hl (i+1) k t XC XR)⟩
 |.int _::_,[],h,_=>by cases h
 |.bool::_,[],h,_=>by cases h
 |.list _::_,[],h,_=>by cases h
def akA{θ:List E}(h:Pc vk vks θ=ZB):θ.length=vks.length:=mu (mt (Rm.ini_ok vk) h)
def apB(hv:Vk U vk){θ:List E}(h:Pc vk vks θ=ZB)(hl:∀(i:Nat) ks t,vks[i]? =ZA (.list ks)->θ[i]? =ZA t->(t.R U).length<=maxLen):okDs vks ((Cv vks θ).D U):=oP hv (mt (Rm.ini_ok vk) h) hl
def abL{v0:Nat}{hd:List Ob}:∀{vks:List VK} {n:Nat},zc v0 hd n vks=ZB->∀(i:Nat) ks,vks[i]? =ZA (.list ks)->∃r:RowOb,.row r∈hd/\r.l=.g (v0+(n+i))
 |[],n,_,i,ks,hi=>by simp at hi
 |k::l,n,h,i,ks,hi=>by
   cases i with
   |zero=>
     simp only[cD,bo]at hi;subst hi;simp only[zc,ne,List.any_eq_true]at h;obtain⟨ob,h1,h2⟩:=h.1;split at h2
     .rename_i r;rw[ne]at h2;have h3:=h2.1;split at h3
      next m hm=>exact⟨r,h1,by rw[hm,Ak h3];rfl⟩
      .cases h3
     .exact XU
   |succ i=>
     have h':zc v0 hd (n+1) l=ZB:=by cases k<;>first|exact h|(simp only[zc,ne]at h;exact h.2)
     obtain⟨r,h1,h2⟩:=abL h' i ks XS;exact⟨r,h1,by rw[h2];congr 1;omega⟩
def adb{cx:Cx}{tmps:TM}(Aj:m.ok cx vk tmps s=ZB)(hv:Vk U vk)(h:Rel U n X W0 cx.fbs s.fs j a w):m.θ.length=m.vks.length/\okDs m.vks ((Cv m.vks m.θ).D U):=by
 have IE:=qs Aj (aio m.v0 m.vks m.θ U) h;simp only[Mt.ok,ne]at Aj;obtain⟨_,_,_,hR,hL⟩:=Aj;refine⟨akA hR,apB hv hR (fun i ks t hi ht=> ?_)⟩;obtain⟨r,h1,h2⟩:=abL hL i ks hi;obtain⟨b,hb,he⟩:=List.getElem_of_mem h1;have AW:(St.mk tmps m.hd).fs.row b=ZA (ZA r):=by simp[St.fs,Ax,BP,AH hb,he]
 obtain⟨v,_,h3⟩:=IE.row b r AW;have h4:=h3.rows.len;rw[h2,bP]at h4;have h5:=(aio m.v0 m.vks m.θ U).l i ks t hi ht;simp only[E.R]at h4;rw[h5]at h4;exact h4
end
def ji(o:Oper)(ms:List Nat):Nat:=o.after.toList.foldl (fun m e=>if ZX .any e then m ||| (2 ^ e.on ||| ms.getD e.on 0)else m) 0
def uf(ops:Array Oper)(r:Rec)(m:Nat):Nat->List Rec->Bool
 |_,[]=>ZB
 |k,x::pre=>(m.testBit k||UL ops x r)&&uf ops r m (k+1) pre
def Mr(ops:Array Oper):List Rec->Nat->List Rec->List Nat->Bool
 |[],_,_,_=>ZB
 |r::l,i,pre,ms=>
   (r.o.after.toList.all fun e=>!ZX .any e||decide (e.on<i))&&(uf ops r (ji r.o ms) 0 pre&&Mr ops l (i+1) (pre++[r]) (ms++[ji r.o ms]))
section
variable {ops:Array Oper}
def uv{ms:List Nat}{k:Nat}:∀(l:List Edge) (m0:Nat),(l.foldl (fun m e=>if ZX .any e then m ||| (2 ^ e.on ||| ms.getD e.on 0)else m) m0).testBit k=ZB->
  m0.testBit k=ZB\/∃e∈l,ZX .any e=ZB/\(k=e.on\/(ms.getD e.on 0).testBit k=ZB)
 |[],m0,h=>.inl h
 |e::l,m0,h=>by
   simp only[YV]at h;rcases uv l _ h with h1|⟨e',h1,h2⟩
   .split at h1
    .rename_i hb;rw[Nat.testBit_or,Nat.testBit_or,Nat.testBit_two_pow,fy,fy,aE]at h1;rcases h1 with h1|h1|h1
     .exact .inl h1
     .exact .inr ⟨e,bW,hb,.inl h1.symm⟩
     .exact .inr ⟨e,bW,hb,.inr h1⟩
    .exact .inl h1
   .exact .inr ⟨e',cR _ h1,h2⟩
def abq{r:Rec}{m:Nat}:∀(pre:List Rec) (k0:Nat),uf ops r m k0 pre=ZB->∀(k:Nat) x,pre[k]? =ZA x->m.testBit (k0+k)=ZB\/Indep ops x r
 |y::pre,k0,h,k,x,hk=>by
   simp only[uf,ne,fy]at h;cases k with
   |zero=>simp only[cD,bo]at hk;subst hk;exact h.1.imp id abU
   |succ k=>have:=abq pre (k0+1) h.2 k x (by simpa using hk);rwa [ZU,Nat.add_comm 1 k]at this
 |[],_,_,k,x,hk=>by simp at hk
def ag9(Rj:∀(i:Nat) r,∀L:List Rec,ops.toList=L.map (·.o)->L[i]? =ZA r->ops[i]? =ZA r.o):∀(post pre:List Rec) (ms:List Nat),ops.toList=(pre++post).map (·.o)->Mr ops post pre.length pre ms=ZB->ms.length=pre.length->
  (∀(i:Nat),i<ms.length->∀k,(ms.getD i 0).testBit k=ZB->∀A7,iL ops A7->(∀o,ops[i]? =ZA o->∀e∈o.after,ZX .any e=ZB->A7 e.on=ZB)->A7 k=ZB)->
  (∀(i:Nat) r,pre.length<=i->(pre++post)[i]? =ZA r->∀e∈r.o.after,ZX .any e=ZB->e.on<i)/\
  (∀(k i:Nat) x r,k<i->pre.length<=i->(pre++post)[k]? =ZA x->(pre++post)[i]? =ZA r->Indep ops x r\/∀A7,iL ops A7->(∀o,ops[i]? =ZA o->∀e∈o.after,ZX .any e=ZB->A7 e.on=ZB)->A7 k=ZB)
 |[],pre,ms,hl,h,hm,hms=>by
   have ZE:∀(i:Nat) r,pre.length<=i->¬(pre++[])[i]? =ZA r:=fun i r hi hr=>by rw[List.append_nil,cn hi]at hr;cases hr
   exact⟨fun i r hi hr=>ai hr (ZE i r hi),fun k i x r _ hi _ hr=>ai hr (ZE i r hi)⟩
 |r0::post,pre,ms,hl,h,hm,hms=>by
   simp only[Mr,ne]at h;obtain⟨h1,h2,h3⟩:=h;have e1:pre++r0::post=(pre++[r0])++post:=by simp
   have MI:ops[pre.length]? =ZA r0.o:=Rj pre.length r0 _ hl (by simp);have MU:∀k,(ji r0.o ms).testBit k=ZB->∀A7,iL ops A7->(∀o,ops[pre.length]? =ZA o->∀e∈o.after,ZX .any e=ZB->A7 e.on=ZB)->A7 k=ZB:=by
    intro k hk A7 hc he;rcases uv _ 0 hk with h4|⟨e,h4,h5,h6⟩
    .simp at h4
    .have QZ:e∈r0.o.after:=by simpa using h4
     have hs:=he _ MI e QZ h5;rcases h6 with rfl|h6
     .exact hs
     .rcases bC e.on ms.length with h7|h7
      .exact hms e.on h7 k h6 A7 hc (fun o ho e' Ic hb=>hc e.on o ho hs e' Ic hb)
      .rw[bZ,cn h7]at h6;simp at h6
   obtain⟨g1,g2⟩:=ag9 Rj post (pre++[r0]) (ms++[ji r0.o ms]) (by rw[<-e1];exact hl) (by simpa using h3) (by simp[hm]) (fun i hi k hk=>by
    rcases bC i ms.length with h4|h4
    .rw[bZ,A9 h4,<-bZ]at hk;exact hms i h4 k hk
    .have:i=ms.length:=by simp at hi;omega
     subst this;rw[bZ,Bo (ZK _)]at hk;simp only[Nat.sub_self,cD,Option.getD_some]at hk;rw[hm];exact MU k hk)
   rw[e1];refine⟨fun i r hi hr=> ?_,fun k i x r hk hi hx hr=> ?_⟩
   .rcases bC pre.length i with h4|h4
    .exact g1 i r XD hr
    .have:i=pre.length:=by omega
     subst this;have:r=r0:=by simpa using hr.symm
     subst this;intro e he hb;have:=CB.1 h1 e YA;simpa[hb]using this
   .rcases bC pre.length i with h4|h4
    .exact g2 k i x r hk XD hx hr
    .have:i=pre.length:=by omega
     subst this;have:r=r0:=by simpa using hr.symm
     subst this;rw[<-e1,A9 hk]at hx;rcases abq pre 0 h2 k x hx with h5|h5
     .rw[bP]at h5;exact .inr (MU k h5)
     .exact .inl h5
end
def Uv(f:St->Kw->(Sig->St->Kw->Tr)->Tr):Nat->St->Kw->(Sig->St->Kw->Tr)->Tr
 |0,_,_,_=>.stuck 73
 |n+1,s,kw,k=>f s kw fun sg s kw=>match sg with
   |.normal=>Uv f n s kw k
   |sg=>k sg s kw
def D1:Code->Option Nat
 |.region id _ _=>ZA id
 |.seq a b=>(match D1 a with|some i=>ZA i|none=>D1 b)
 |.block _ c=>D1 c
 |.loop c=>D1 c
 |.cond _ x y=>(match D1 x with|some i=>ZA i|none=>D1 y)
 |_=>ZE
def am8(c:Code)(l:List (Nat×List Pl)):Option (Nat×List Pl):=match D1 c with
 |some i=>(ap i l).map (i,·)
 |none=>ZE
def Kw.head(kw:Kw)(vks:List VK):Kw:=⟨kw.pc.filter fun p=>p.1.sc kw.vk.length,[],kw.vk++vks,kw.lv+1⟩
def Uu(cx:Cx)(lv v0:Nat)(vks:List VK)(hd:St)(h0:Nat)(pls:List Pl)(s:St)(kw:Kw):Tr:=match Ni pls s with
 |some (θ,ex)=>if Mt.ok ⟨v0,vks,θ,h0,ex,hd.heap⟩ cx kw.vk hd.tmps s then .next lv (Cv vks θ)else .stuck 110
 |none=>.stuck 111
abbrev Ij:=Nat->List V->St->Kw->(V->St->Kw->Tr)->Tr
def yB:Nat:=1000000
structure RfS where
 ps:Array Nat
 assign:Code
 body:Code
 dep:Nat
 len:Nat
 hints:List (Nat×List Pl)
 cuts:List (Nat×List Pl)
abbrev RlK:=RfS->Ij
def uj(heap:List Ob):Bool:=heap.all Ob.noLp
def qv:Operand->Bool
 |.const (.slice ZE 0 0)=>ZB
 |_=>ZC
def aqN(cx:Cx)(o:Oper):Bool:=match o.op with
 |.next _ ZC=>ZB
 |.binOp .eql _ _ y _=>qv y
 |.call c=>(match cx.fns with
   |[]=>ZC
   |_::_=>match c.callee with
     |.value (.func g)=>!(cx.sm.any fun s=>ZJ s.f g)
     |.value (.tmp _)=>ZB
     |_=>ZC)
 |_=>ZC
def gA:Nat->List Oper->List (Nat×Oper)
 |_,[]=>[]
 |i,o::l=>(i,o)::gA (i+1) l
def mT(cx:Cx):List (Nat×Oper)->Option (Nat×Oper)
 |[]=>ZE
 |p::l=>if aqN cx p.2 then ZA p else mT cx l
def gq(ops:Array Oper):List Nat:=ops.toList.foldl (fun ms o=>ms++[ji o ms]) []
def JC:Option (Bool×Nat×Nat)->V
 |none=>.one .np
 |some (ZB,b,o)=>.one (.ptr b o)
 |some (ZC,b,o)=>.one (.fp b o)
def K7(cl:Ij)(o:Oper)(g:Nat)(args:List V)(s:St)(kw:Kw)(k:St->Kw->Tr):Tr:=
 cl g args s kw fun v s' An=>match o.dst with
  |none=>k s' An
  |some d=>if Nat.blt d s'.n then k ⟨s'.tmps.set d v,s'.heap⟩ An else .stuck 60
def avr(cx:Cx)(s:St)(kw:Kw)(o:Oper):Bool:=
 match o.op with
 |.call c=>match c.callee with
   |.value f=>match HF s.n s.tmps f,Ew (HF s.n s.tmps) c.args.toList with
     |some (.one (.fn g)),ZA args=>(sx kw.vk (s.vw cx) g args cx.sm).isSome
     |_,_=>ZC
   |_=>ZC
 |_=>ZC
def apb(s:St)(kw:Kw):Mt:=⟨kw.vk.length,[],[],s.heap.length,[],s.heap⟩
def O4(l:E)(v:Nat):E:=.not (.and (.eq (.w v) (.p 0)) (.lt (.p 0) (dG l)))
def O5(cx:Cx)(o:Oper)(xt id:Nat)(s:St)(kw:Kw)(k:St->Kw->Tr):Tr:=
 match Ku s.heap id,ap xt cx.ty with
 |some r,ZA i=>
   if r.kd.isSl&&(i.sle.isSome&&Mt.ok (apb s kw) cx kw.vk s.tmps s)then
    .any kw.vk.length (O4 r.l kw.vk.length) (match s.app o.dst {val:=.one (.bool (.eq (.w kw.vk.length) (.p 0)))}with
     |some s'=>k s' (kw.head [.int .i64])
     |none=>.stuck 60)
   else .stuck 191
 |_,_=>.stuck 192
def UQ(cl:Ij)(cx:Cx)(o:Oper)(s:St)(kw:Kw)(k:St->Kw->Tr):Tr:=
 match o.op with
 |.binOp .eql xt x y _=>if qv y then(match HF s.n s.tmps x with
   |some (.one (.sl id))=>O5 cx o xt id s kw k
   |some (.one .nsl)=>(match ap xt cx.ty with
     |some i=>if i.sle.isSome then(match s.app o.dst {val:=.one (.bool (.tt ZB))}with
       |some s'=>k s' kw
       |none=>.stuck 60)else .stuck 193
     |none=>.stuck 193)
   |_=>.stuck 194)else .stuck 195
 |.call c=>match c.callee with
   |.value f=>match HF s.n s.tmps f,Ew (HF s.n s.tmps) c.args.toList with
     |some (.one (.fn g)),ZA args=>if Nat.blt g yB then K7 cl o g args s kw k else .stuck 208
     |some (.one (.clo g fs ps)),ZA args=>if Nat.blt g yB then K7 cl o g (fs.map JC++args++ps.map JC) s kw k else .stuck 208
     |some (.one (.yld id)),ZA args=>K7 cl o (yB+id) args s kw k
     |_,_=>.stuck 123
   |_=>.stuck 124
 |.next x ZC=>match HF s.n s.tmps x with
   |some (.one (.itp id mid))=>.stuck 301
   |_=>.stuck 158
 |_=>.stuck 125
def Uw(o:Oper)(s:St)(kw:Kw)(k:St->Kw->Tr):Tr:=match s.app o.dst {val:=.one .undef}with
 |some s'=>k s' kw
 |none=>.stuck 60
def LM(cl:Ij)(cx:Cx)(ops:Array Oper)(o:Oper)(s:St)(kw:Kw)(k:St->Kw->Tr):Tr:=
 if avr cx s kw o then Er cx ops [o] s kw fun _ s kw=>k s kw else
 match o.guard with
 |none=>UQ cl cx o s kw k
 |some (g,b)=>match((ops[g]?).bind (·.dst)).bind (fun t=>if Nat.blt t s.n then s.tmps.get? t else ZE)with
   |some (.one (.bool e))=>AK e (fun x kw=>if x==b then UQ cl cx o s kw k else Uw o s kw k) kw
   |some (.one .undef)=>Uw o s kw k
   |_=>.stuck 61
def JY(cl:Ij)(cx:Cx)(ops:Array Oper):List Oper->St->Kw->(St->Kw->Tr)->Tr
 |[],s,kw,k=>k s kw
 | o::l,s,kw,k=>if aqN cx o then LM cl cx ops o s kw fun s kw=>JY cl cx ops l s kw k
   else Er cx ops [o] s kw fun _ s kw=>JY cl cx ops l s kw k
def avQ(ops:Array Oper)(A7:Nat->Bool)(i:Nat)(o:Oper):Bool:=
 (gA 0 ops.toList).all fun p=>ZJ p.1 i||(A7 p.1||((p.2.after.toList.any fun e=>ZX .any e&&ZJ e.on i)||o.apart ops p.2))
def air(cx:Cx)(ops:Array Oper)(A7:Nat->Bool)(i:Nat)(o:Oper):Bool:=
 o.guard.isNone&&((match o.op with
  |.move _=>ZB
  |.assign _=>ZB
  |.fieldAddr s _ f=>(match ap s cx.ty with
    |some i=>(i.fields[f]?).isSome
    |none=>ZC)
  |.indexAddr _ _ _=>ZB
  |.nilCheck _=>ZB
  |.slice _ _ _ _ _=>ZB
  |_=>ZC)&&(Region.noSelect ops&&avQ ops A7 i o))
def nb(ms:List Nat)(i k:Nat):Bool:=(ms.getD i 0).testBit k
def T2(ops:Array Oper)(ms:List Nat)(p:Nat×Rec):List (Nat×Rec)->Bool
 |[]=>ZB
 |q::l=>(nb ms p.1 q.1||UL ops q.2 p.2)&&T2 ops ms p l
def oL(ops:Array Oper)(ms:List Nat):List (Nat×Rec)->List (Nat×Rec)->Bool
 |_,[]=>ZB
 |pre,p::l=>T2 ops ms p pre&&oL ops ms (pre++[p]) l
def UB(cx:Cx)(ops:Array Oper)(ms:List Nat)(L:List (Nat×Rec))(I4:List (Nat×Oper)):Bool:=
 oL ops ms [] L&&((L.all fun p=>p.2.o.after.toList.all fun e=>!ZX .any e||(Nat.blt e.on p.1&&(I4.all fun q=>!ZJ q.1 e.on)))&&
  (I4.all fun q=>L.all fun p=>nb ms q.1 p.1||air cx ops (fun k=>!(I4.any fun q=>ZJ q.1 k) &&!(L.any fun q=>ZJ q.1 k &&!Nat.blt k p.1)) p.1 p.2.o))
def sK(ops:Array Oper):Bool:=(ops.toList.all fun o=>match o.op with|.defer _=>ZC|_=>ZB)&&(gA 0 ops.toList).all fun p=>p.2.after.toList.all fun e=>!ZX .any e||Nat.blt e.on p.1
def avo(o:Oper):Bool:=match o.op with
 |.move _=>ZB
 |.assign _=>ZB
 |.fieldAddr _ _ _=>ZB
 |.indexAddr _ _ _=>ZB
 |.nilCheck _=>ZB
 |.slice _ _ _ _ _=>ZB
 |_=>ZC
def Mu(cl:Ij)(cx:Cx)(ops:Array Oper)(ms:List Nat):Nat->List (Nat×Oper)->St->Kw->(St->Kw->Tr)->Tr
 |0,_,_,_,_=>.stuck 126
 |m+1,C9,s,kw,k=>match mT cx C9 with
   |none=>Er cx ops (C9.map (·.2)) s kw fun rs s' An=>if UB cx ops ms ((C9.map (·.1)).zip rs) []then k s' An else .stuck 70
   |some (ci,co)=>
     let A:=C9.filter fun p=>!ZJ p.1 ci &&!nb ms p.1 ci;let B:=C9.filter fun p=>nb ms p.1 ci &&!ZJ p.1 ci
     match A.find? (fun p=>!nb ms ci p.1 &&!avo p.2)with
     |none=>Er cx ops (A.map (·.2)) s kw fun rs s' An=>if UB cx ops ms ((A.map (·.1)).zip rs) ((ci,co)::B)then
      LM cl cx ops co s' An fun s kw=>Mu cl cx ops ms m B s kw k
       else .stuck 127
     |some _=>.stuck 127
def xP(v:Option V)(id:Nat):Option (Nat×List V):=match v with
 |some (.one (.fn g))=>ZA (g,[.one (.yld id)])
 |some (.one (.clo g fs ps))=>ZA (g,fs.map JC++[.one (.yld id)]++ps.map JC)
 |_=>ZE
def gK(cl:Ij)(rl:Option RlK)(cx:Cx)(fuel:Nat):Code->St->Kw->(Sig->St->Kw->Tr)->Tr
 |.skip,s,kw,k=>k .normal s kw
 |.label _,s,kw,k=>k .normal s kw
 |.region _ ops draw,s,kw,k=>match mT cx (gA 0 ops.toList)with
   |none=>Er cx ops ops.toList s kw fun rs s' An=>if draw then(if Mr ops rs 0 [] []then k .normal s' An else .stuck 70)else k .normal s' An
   |some _=>if draw then if sK ops then Mu cl cx ops (gq ops) (ops.size+1) (gA 0 ops.toList) s kw (k .normal)else .stuck 128 else JY cl cx ops ops.toList s kw (k .normal)
 |.seq a b,s,kw,k=>match am8 b cx.cuts with
   |none=>gK cl rl cx fuel a s kw fun sg s kw=>match sg with
     |.normal=>gK cl rl cx fuel b s kw k
     |sg=>k sg s kw
   |some (id,pls)=>match pls with
     |[.ask]=>gK cl rl cx fuel a s kw fun sg s kw=>match sg with
       |.normal=>.at id s
       |sg=>k sg s kw
     |pls=>match Ky kw.vk.length pls (s,[])with
       | some (hd,vks)=>.cut kw.lv kw.vk.length vks
        (gK cl rl cx fuel a s {kw with lv:=kw.lv+1} fun sg s' An=>match sg with
         |.normal=>Uu cx kw.lv kw.vk.length vks hd s.heap.length pls s' An
         |sg=>k sg s' An)
        (gK cl rl cx fuel b hd (kw.head vks) k)
       |none=>.stuck 114
 |.cond c x y,s,kw,k=>match HF s.n s.tmps c with
   |some (.one (.bool e))=>AK e (fun t kw=>if t then gK cl rl cx fuel x s kw k else gK cl rl cx fuel y s kw k) kw
   |_=>.stuck 71
 |.block id c,s,kw,k=>gK cl rl cx fuel c s kw fun sg s kw=>match sg with
   |.exit i=>if ZJ i id then k .normal s kw else k (.exit i) s kw
   |sg=>k sg s kw
 |.loop c,s,kw,k=>match am8 c cx.hints with
   |none=>Uv (gK cl rl cx fuel c) fuel s kw k
   |some (id,pls)=>match pls with
     |[.ask]=>.at id s
     |pls=>match Ky kw.vk.length pls (s,[]),Ni pls s with
       |some (hd,vks),ZA (θ,ex)=>
         if Mt.ok ⟨kw.vk.length,vks,θ,s.heap.length,ex,hd.heap⟩ cx kw.vk hd.tmps s then
          .loop kw.lv kw.vk.length vks (Cv vks θ) (gK cl rl cx fuel c hd (kw.head vks) fun sg s' An=>match sg with
           |.normal=>Uu cx kw.lv kw.vk.length vks hd s.heap.length pls s' An
           |sg=>k sg s' An)
         else .stuck 112
       |_,_=>.stuck 113
 |.exit id,s,kw,k=>k (.exit id) s kw
 |.ret,s,kw,k=>k .ret s kw
 |.scope c,s,kw,k=>gK cl rl cx fuel c s kw k
 |.rangeFunc f ps assign body,s,kw,k=>match rl,xP (HF s.n s.tmps f) s.heap.length with
   |some rl,ZA (g,args)=>if Nat.blt g yB&&uj s.heap then
    rl ⟨ps,assign,body,fi s.tmps.old,s.n,cx.hints,cx.cuts⟩ g args ⟨s.tmps,s.heap++[.loop ⟨.ready,ZE⟩]⟩ kw fun _ s' An=>match s'.heap[s.heap.length]? with
     |some (.loop y)=>(match y.st with
       |.busy=>.stuck 201
       |_=>if uj (s'.heap.set s.heap.length .gone)then(match y.pend with
         |none=>k .normal ⟨s'.tmps,s'.heap.set s.heap.length .gone⟩ An
         |some .normal=>.stuck 207
         |some sg=>k sg ⟨s'.tmps,s'.heap.set s.heap.length .gone⟩ An)else .stuck 202)
     |_=>.stuck 203
     else .stuck 204
   |_,_=>.stuck 205
 |_,_,_,_=>.stuck 72
def Sig.exit':Sig->Exit
 |.normal=>.normal
 |.exit id=>.exit id
 |.ret=>.ret
section
variable {P:Program}{sp:Spec}{U:Env}{G:Env->E->Prop}{I:Nat->List Dt->Prop}{cx:Cx}{n:Nat}{X:List Value}{W0:Wb}
structure At(cx:Cx)(U:Env)(n:Nat)(X:List Value)(W0:Wb)(s:St)(j:J)(a:Act)(w:World):Prop where
 rel:Rel U n X W0 cx.fbs s.fs j a w
 len:s.tmps.length=n+X.length
 own:s.n=n
def am6{ops:Array Oper}(i:Nat)(r:Rec)(L:List Rec)(hl:ops.toList=L.map (·.o))(hi:L[i]? =ZA r):ops[i]? =ZA r.o:=by rw[<-lE,hl,js,hi];rfl
def acv{p:Pl}{x y:St×List VK}(h:Ng v0 p x=ZA y):y.1.tmps.length=x.1.tmps.length/\y.1.n=x.1.n:=by
 unfold Ng at h;cases p<;>dsimp only at h<;>first
  |(split at h<;>first|(cases h;exact⟨rfl,rfl⟩)|cases h)
  |(rw[Ay]at h;obtain⟨_,_,rfl⟩:=h;exact⟨rfl,rfl⟩)
  |(cases h;exact⟨rfl,rfl⟩)
  |cases h
def kZ{v0:Nat}:∀{l:List Pl} {x y:St×List VK},Ky v0 l x=ZA y->y.1.tmps.length=x.1.tmps.length/\y.1.n=x.1.n
 |[],x,y,h=>by cases h;exact⟨rfl,rfl⟩
 |p::l,x,y,h=>by simp only[Ky,de]at h;obtain⟨z,h1,h2⟩:=h;rw[(kZ h2).1,(kZ h2).2,(acv h1).1,(acv h1).2];exact⟨rfl,rfl⟩
def qw{U':Env}{kw:Kw}(hg:Good sp cx.sm U kw)(ha:Ag kw.vk.length U U')(hd:okDs vks (varsD U' kw.vk.length vks)):Good sp cx.sm U' (kw.head vks):=by
 refine⟨fun p hp=> ?_,?_,fun p hp=>by cases hp⟩
 .have h1:=List.mem_filter.1 hp;rw[<-(E.sc_eq ha p.1 (by simpa using h1.2)).2.1];exact hg.pc p h1.1
 .have key:∀(vks:List VK) (n:Nat),okDs vks (varsD U' n vks)->(∀(i:Nat) k,vks[i]? =ZA (.int k)->Ae k (U'.i (n+i))=ZB)/\∀(i:Nat) ks,vks[i]? =ZA (.list ks)->RowsIn ks (U'.l (n+i)):=by
   intro vks
   induction vks with
   |nil=>intro n _;exact⟨fun i k h=>by simp at h,fun i k h=>by simp at h⟩
   |cons x l ih=>
     intro n h;obtain⟨h1,h2⟩:=h;obtain⟨i1,i2⟩:=ih (n+1) h2;refine⟨fun i k hk=> ?_,fun i ks hk=> ?_⟩
     .cases i with
      |zero=>simp at hk;subst hk;exact h1
      |succ i=>have:=i1 i k (by simpa using hk);rwa [show n+(i+1)=n+1+i by omega]
     .cases i with
      |zero=>simp at hk;subst hk;exact h1
      |succ i=>have:=i2 i ks (by simpa using hk);rwa [show n+(i+1)=n+1+i by omega]
  obtain⟨k1,k2⟩:=key vks _ hd;constructor
  .intro i k hk;rcases bC i kw.vk.length with As|DC
   .simp only[Kw.head]at hk;rw[A9 As]at hk;rw[<-(ha i As).1];exact hg.vk.i i k hk
   .simp only[Kw.head]at hk;rw[Bo DC]at hk;have:=k1 _ k hk;rwa [show kw.vk.length+(i-kw.vk.length)=i by omega]at this
  .intro i k hk;rcases bC i kw.vk.length with As|DC
   .simp only[Kw.head]at hk;rw[A9 As]at hk;rw[<-(ha i As).2.2];exact hg.vk.l i k hk
   .simp only[Kw.head]at hk;rw[Bo DC]at hk;have:=k2 _ k hk;rwa [show kw.vk.length+(i-kw.vk.length)=i by omega]at this
def ajf(cx:Cx)(n:Nat)(X:List Value)(W0:Wb)(U:Env)(v0:Nat)(vks:List VK)(hd:St)(ds:List Dt)(a:Act)(w:World):Prop:=∃j,∀U',Ag v0 U U'->varsD U' v0 vks=ds->At cx U' n X W0 hd j a w
def rV{U2:Env}{θ:List E}{h0:Nat}{ex:List (Option Nat)}{hd:St}(Aj:Mt.ok ⟨v0,vks,θ,h0,ex,hd.heap⟩ cx vk hd.tmps s=ZB)(hv:Vk U2 vk)(hl:hd.tmps.length=n+X.length/\hd.n=n)(ha:Ag v0 U U2)(hr:At cx U2 n X W0 s j a w):
  okDs vks ((Cv vks θ).D U2)/\ajf cx n X W0 U v0 vks hd ((Cv vks θ).D U2) a w:=by
 obtain⟨h1,h2⟩:=adb Aj hv hr.rel;refine⟨h2,_,fun U3 h3 h4=>⟨qs Aj (atN (ha.symm.trans h3) h1 h4) hr.rel,hl.1,hl.2⟩⟩
def abD{U2:Env}{lv:Nat}{h0:Nat}{pls:List Pl}{hd:St}{kw:Kw}(h:(Uu cx lv v0 vks hd h0 pls s kw).holds sp G U2 I)(hv:Vk U2 kw.vk)(hl:hd.tmps.length=n+X.length/\hd.n=n)(ha:Ag v0 U U2)(hr:At cx U2 n X W0 s j a w):
  ∃ds,I lv ds/\okDs vks ds/\ajf cx n X W0 U v0 vks hd ds a w:=by
 unfold Uu at h;split at h
 .split at h
  next Aj=>obtain⟨h1,h2⟩:=rV Aj hv hl ha hr;exact⟨_,h,h1,h2⟩
  .exact h.elim
 .exact h.elim
def Tie(sp:Spec)(ry:Option RfS)(X:List Value)(W0:Wb):Prop:=W0.hw=sp.hw/\match ry with
 |none=>True
 |some r=>∃(rf:Rf) (A B:List Value),W0.rf=ZA rf/\rf.ps=r.ps/\rf.assign=r.assign/\rf.body=r.body/\rf.tmps.size=r.len/\X=A++(rf.tmps.toList++B)/\B.length=r.dep
def Tie.more{ry:Option RfS}(h:Tie sp ry X W0)(L:List Value):Tie sp ry (L++X) W0:=by
 cases ry with
 |none=>exact⟨h.1,trivial⟩
 |some r=>obtain⟨h0,rf,A,B,h1,h2,h3,h4,h5,h6,h7⟩:=h;exact⟨h0,rf,L++A,B,h1,h2,h3,h4,h5,by rw[h6,List.append_assoc],h7⟩
structure CallOk(P:Program)(sp:Spec)(G:Env->E->Prop)(cx:Cx)(ry:Option RfS)(cl:Ij):Prop where
 call:∀(g:Nat) (args:List V) (s:St) (kw:Kw) (k:V->St->Kw->Tr) (R:Value->World->Prop) (U:Env) (I:Nat->List Dt->Prop) (n:Nat) (X:List Value) (W0:Wb) (j:J) (a:Act) (w:World) (vals:List Value),g<yB->
  (cl g args s kw k).holds sp G U I->Good sp cx.sm U kw->At cx U n X W0 s j a w->Tie sp ry (a.tmps.toList++X) W0->vals.length=args.length->(∀(i:Nat) x,args[i]? =ZA x->∃u,vals[i]? =ZA u/\x.den U j=ZA u)->
  (∀v s' An U' I' j' w' u,(k v s' An).holds sp G U' I'->Good sp cx.sm U' An->Ag kw.vk.length U U'->(∀m,m<kw.lv->I' m=I m)->kw.lv<=An.lv->kw.vk.length<=An.vk.length->v.den U' j'=ZA u->At cx U' n X W0 s' j' a w'->R u w')->
  (callFunc g vals.toArray).run P w=.ok (.enter g vals.toArray) w/\Calls P g vals.toArray w fun e w'=>∃u,e=.returned u/\R u w'
 yld:∀(id:Nat) (args:List V) (s:St) (kw:Kw) (k:V->St->Kw->Tr) (R:Value->World->Prop) (U:Env) (I:Nat->List Dt->Prop) (n:Nat) (X:List Value) (W0:Wb) (j:J) (a:Act) (w:World) (vals:List Value) (l:Nat),
  (cl (yB+id) args s kw k).holds sp G U I->Good sp cx.sm U kw->At cx U n X W0 s j a w->Tie sp ry X W0->j.g.y id=ZA l->vals.length=args.length->(∀(i:Nat) x,args[i]? =ZA x->∃u,vals[i]? =ZA u/\x.den U j=ZA u)->
  (∀v s' An U' I' j' w' u,(k v s' An).holds sp G U' I'->Good sp cx.sm U' An->Ag kw.vk.length U U'->(∀m,m<kw.lv->I' m=I m)->kw.lv<=An.lv->kw.vk.length<=An.vk.length->v.den U' j'=ZA u->At cx U' n X W0 s' j' a w'->R u w')->
  ∃f tmps assign body,(Instr.yield l vals.toArray).run P w=.ok (.round l f tmps assign body) w/\∀ro,RoundIn (Fw ro) 0 P l f tmps assign body w fun e w'=>∃u,e=.returned u/\R u w'
def Jw(P:Program)(sp:Spec)(G:Env->E->Prop)(cx:Cx)(ry:Option RfS)(cl:Ij)(X:List Value)(W0:Wb):Prop:=CallOk P sp G cx ry cl/\Tie sp ry X W0
structure Nx(kw An:Kw)(U U':Env)(I I':Nat->List Dt->Prop):Prop where
 ag:Ag kw.vk.length U U'
 inv:∀m,m<kw.lv->I' m=I m
 lv:kw.lv<=An.lv
 vk:kw.vk.length<=An.vk.length
def Nx.refl(kw:Kw)(U:Env)(I:Nat->List Dt->Prop):Nx kw kw U U I I:=⟨.refl _ _,fun _ _=>rfl,ZK _,ZK _⟩
def Nx.of{kw An:Kw}(h:KwGe An kw)(U:Env)(I:Nat->List Dt->Prop):Nx kw An U U I I:=⟨.refl _ _,fun _ _=>rfl,by rw[h.lv];exact ZK _,h.vk⟩
def Nx.trans{a b c:Kw}{U U' U'':Env}{I I' I'':Nat->List Dt->Prop}(h:Nx a b U U' I I')(h':Nx b c U' U'' I' I''):Nx a c U U'' I I'':=⟨h.ag.trans (h'.ag.mono h.vk),fun m hm=>(h'.inv m (nr hm h.lv)).trans (h.inv m hm),dd h.lv h'.lv,dd h.vk h'.vk⟩
end
open Go
section
variable {P:Program}{sp:Spec}{U:Env}{G:Env->E->Prop}{I:Nat->List Dt->Prop}{cx:Cx}{cl:Ij}{n:Nat}{X:List Value}{W0:Wb}{ops:Array Oper}{ro:Option Nat}{ry:Option RfS}
def At.ev(h:At cx U n X W0 s j a w){x:Operand}{v:V}(hx:HF s.n s.tmps x=ZA v):v.den U j=ZA (a.eval x):=by refine h.rel.eval (x:=x) ?_;have:=aiv s s.le x;rw[h.own]at this hx;rw[this];exact hx
def At.le(h:At cx U n X W0 s j a w):s.n<=s.tmps.length:=s.le
def mW{j:J}:∀{l:List (Option (Bool×Nat×Nat))} {vs:List Value},fg j l=ZA vs->vs.length=(l.map JC).length/\∀(i:Nat) x,(l.map JC)[i]? =ZA x->∃u,vs[i]? =ZA u/\x.den U j=ZA u
 |[],vs,h=>by cases h;exact⟨rfl,fun i x hx=>by simp at hx⟩
 |c::l,vs,h=>by
   simp only[fg]at h;cases hc:Es j c with
   |none=>rw[hc]at h;cases h
   |some v=>
     cases hl:fg j l with
     |none=>rw[hc,hl]at h;cases h
     |some us=>
       rw[hc,hl]at h;cases h;obtain⟨h1,h2⟩:=mW hl;refine⟨by simp[h1],fun i x hx=> ?_⟩;cases i with
       |zero=>
         simp only[List.map_cons,cD,bo]at hx;subst hx;refine⟨v,rfl,?_⟩
         match c,hc with
         |none,hc=>exact hc
         |some (ZB,b,o),hc=>exact hc
         |some (ZC,b,o),hc=>exact hc
       |succ i=>exact h2 i x Xz
def oX{xs ys:List V}{us vs:List Value}(h1:us.length=xs.length)(h2:∀(i:Nat) x,xs[i]? =ZA x->∃u,us[i]? =ZA u/\x.den U j=ZA u)(h3:∀(i:Nat) x,ys[i]? =ZA x->∃u,vs[i]? =ZA u/\x.den U j=ZA u):
  ∀(i:Nat) x,(xs++ys)[i]? =ZA x->∃u,(us++vs)[i]? =ZA u/\x.den U j=ZA u:=by
 intro i x hx;rcases bC i xs.length with As|DC
 .rw[A9 As]at hx;rw[A9 Fn];exact h2 i x hx
 .rw[Bo DC]at hx;rw[Bo Fn,h1];exact h3 _ x hx
def ah4(CY:Jw P sp G cx ry cl X W0){kw:Kw}{k:St->Kw->Tr}(JM:g<yB)(h:(K7 cl o g args s kw k).holds sp G U I)(hg:Good sp cx.sm U kw)(hr:At cx U n X W0 s j a w)
  (hl:vals.length=args.length) (hd:∀(i:Nat) x,args[i]? =ZA x->∃u,vals[i]? =ZA u/\x.den U j=ZA u) {K:Act->World->Prop}
  (hK:∀s' An U' I' j' a' w',(k s' An).holds sp G U' I'->Good sp cx.sm U' An->Nx kw An U U' I I'->At cx U' n X W0 s' j' a' w'->K a' w'):
  (callFunc g vals.toArray).run P w=.ok (.enter g vals.toArray) w/\Calls P g vals.toArray w fun e w'=>∃u,e=.returned u/\K (a.put o.dst u) w':=by
 refine CY.1.call g args s kw _ (fun u w'=>K (a.put o.dst u) w') U I n X W0 j a w vals JM h hg hr (CY.2.more _) hl hd (fun v s' An U' I' j' w' u h' CP ha hI KZ RR hv AV=> ?_);have MV:Nx kw An U U' I I':=⟨ha,hI,KZ,RR⟩
 split at h'
 next GL=>rw[GL];exact hK s' An U' I' j' _ w' h' CP MV AV
 .rename_i d GL;split at h'
  .rename_i As;have KY:d<s'.n:=by simpa[Nat.blt_eq]using As
   refine hK _ An U' I' j' _ w' h' CP MV ⟨?_,AV.len,AV.own⟩;have h1:=AV.rel.put (dst:=o.dst) hv (fun d' Ib=>by rw[GL]at Ib;cases Ib;rw[<-AV.own];exact KY);rw[GL]at h1 ⊢;have e:(St.mk (s'.tmps.set d v) s'.heap).fs=s'.fs.put (ZA d) v:=by
    refine Fz.ext' (fun t=> ?_) (fun _=>rfl) (fun _=>rfl) (fun _=>rfl);simp only[Fz.put,St.fs,Ax,TM.get_set s'.tmps v KY];by_cases ht:d=t
    .subst ht;simp
    .simp[ht]
   rw[e];exact h1
  .exact h'.elim
def aqO(CY:Jw P sp G cx ry cl X W0){id l:Nat}{kw:Kw}{k:St->Kw->Tr}(h:(K7 cl o (yB+id) args s kw k).holds sp G U I)(hg:Good sp cx.sm U kw)(hr:At cx U n X W0 s j a w)
  (hl:vals.length=args.length) (MY:j.g.y id=ZA l) (hd:∀(i:Nat) x,args[i]? =ZA x->∃u,vals[i]? =ZA u/\x.den U j=ZA u) {K:Act->World->Prop}
  (hK:∀s' An U' I' j' a' w',(k s' An).holds sp G U' I'->Good sp cx.sm U' An->Nx kw An U U' I I'->At cx U' n X W0 s' j' a' w'->K a' w'):
  ∃f tmps assign body,(Instr.yield l vals.toArray).run P w=.ok (.round l f tmps assign body) w/\∀ro,RoundIn (Fw ro) 0 P l f tmps assign body w fun e w'=>∃u,e=.returned u/\K (a.put o.dst u) w':=by
 refine CY.1.yld id args s kw _ (fun u w'=>K (a.put o.dst u) w') U I n X W0 j a w vals l h hg hr CY.2 MY hl hd (fun v s' An U' I' j' w' u h' CP ha hI KZ RR hv AV=> ?_);have MV:Nx kw An U U' I I':=⟨ha,hI,KZ,RR⟩
 split at h'
 next GL=>rw[GL];exact hK s' An U' I' j' _ w' h' CP MV AV
 .rename_i d GL;split at h'
  .rename_i As;have KY:d<s'.n:=by simpa[Nat.blt_eq]using As
   refine hK _ An U' I' j' _ w' h' CP MV ⟨?_,AV.len,AV.own⟩;have h1:=AV.rel.put (dst:=o.dst) hv (fun d' Ib=>by rw[GL]at Ib;cases Ib;rw[<-AV.own];exact KY);rw[GL]at h1 ⊢;have e:(St.mk (s'.tmps.set d v) s'.heap).fs=s'.fs.put (ZA d) v:=by
    refine Fz.ext' (fun t=> ?_) (fun _=>rfl) (fun _=>rfl) (fun _=>rfl);simp only[Fz.put,St.fs,Ax,TM.get_set s'.tmps v KY];by_cases ht:d=t
    .subst ht;simp
    .simp[ht]
   rw[e];exact h1
  .exact h'.elim
def alt{U U':Env}(h:Ag v0 U U'):Giv v0 [] [] U U':=⟨h,fun m k t hk=>by simp at hk,fun m t hk=>by simp at hk,fun m ks t hk=>by simp at hk⟩
def sj{y:Operand}(h:qv y=ZB)(a:Act):a.eval y=.slice ZE 0 0:=by
 unfold qv at h;split at h
 .rfl
 .exact Xo
def ap5(hT:∀t i,(t,i)∈cx.ty->TIok P t i){xt yt:Nat}{x y:Operand}{id:Nat}{kw:Kw}{k:St->Kw->Tr}(Ad:o.op=.binOp .eql xt x y yt)(hy:qv y=ZB)(Au:HF s.n s.tmps x=ZA (.one (.sl id)))(h:(O5 cx o xt id s kw k).holds sp G U I)(hg:Good sp cx.sm U kw)(hr:At cx U n X W0 s j a w){K:Act->World->Prop}{Q:Exit->Act->World->Prop}(hK:∀s' An U' I' j' a' w',(k s' An).holds sp G U' I'->Good sp cx.sm U' An->Nx kw An U U' I I'->At cx U' n X W0 s' j' a' w'->K a' w'):o.wp P a w K Q:=by
 unfold O5 at h;split at h
 .rename_i r i hq hi;split at h
  .rename_i hc;simp only[ne]at hc;obtain⟨DO,Gk,Aj⟩:=hc;obtain⟨et,L7⟩:=Option.isSome_iff_exists.1 Gk;have hu:=(hT _ _ (af hi)).sle et L7;have hx:=hr.ev Au;obtain⟨sv,hs,hv⟩:∃sv:SV,j.s id=ZA sv/\a.eval x=sv.v:=by
    simp only[V.den,C.den,Ay]at hx;obtain⟨sv,h1,h2⟩:=hx;exact⟨sv,h1,h2.symm⟩
   obtain⟨U',ha,hz,hh⟩:=h (if sv.a.isNone then 0 else 1) (by split<;>decide);have AV:At cx U' n X W0 s ((apb s kw).J j) a w:=⟨qs Aj (alt ha) hr.rel,hr.len,hr.own⟩
   have Q5:(O4 r.l kw.vk.length).B U'=ZB:=by
    have F9:=AV.ev Au;simp only[V.den,C.den,Ay]at F9;obtain⟨sv',h1,h2⟩:=F9;obtain⟨sv2,h3,h4⟩:=AV.rel.row id r (iQ (by rw[nE];exact hq));rw[h1]at h3;cases h3;have hkd':r.kd=.sl:=by
     cases hd:r.kd with
     |sl=>rfl
     |_=>rw[hd]at DO;cases DO
    have h5:=h4.1 hkd';have h6:=h5.n;have h7:=h5.rd.2.2.2.1;rw[hv]at h2;obtain⟨sa,sn,sc,sz⟩:=sv;obtain⟨ta,tn,tc,tz⟩:=sv';simp only[SV.v,Value.slice.injEq]at h2;obtain⟨rfl,rfl,rfl⟩:=h2;simp only[O4,E.B,E.I,hz,dF,<-h6];cases ta with
    |none=>have h8:=(h7 rfl).1;simp only at h8;subst h8;simp
    |some q=>simp
   have hh':=hh Q5;split at hh'
   .rename_i s' Bj;obtain⟨e1,e2,e3,_,_,_⟩:=St.app_ok hr.le Bj;have Cl:(execOp a.eval o).run P w=.ok (.value (.bool sv.a.isNone)) w:=by
     obtain⟨sa,sn,sc,sz⟩:=sv;have h1:=Go.Lib.run_eql_slice_nil (P:=P) w xt et sa sn sc 0 0 hu;simp only[execOp,Ad,hv,sj hy,SV.v,eqGuard,ZI];exact congrArg (fun r=>Result.andThen r fun a w'=>Result.ok (Next.value a) w') h1
    refine dH Cl (hK s' _ U' I ((apb s kw).J j) _ _ hh' (qw hg ha ⟨?_,trivial⟩) ⟨ha,fun _ _=>rfl,by simp[Kw.head],by simp[Kw.head]⟩ ⟨?_,by rw[e2.1];exact hr.len,by rw[e2.2];exact hr.own⟩)
    .show Ae .i64 (U'.i kw.vk.length)=ZB;rw[hz];split<;>decide
    .rw[e1];refine AV.rel.put ?_ (fun d hd=>by rw[<-hr.own];exact e3 d hd);simp only[V.den,C.den,E.B,E.I,hz];cases sv.a<;>rfl
   .exact hh'.elim
  .exact h.elim
 .exact h.elim
def anf(hT:∀t i,(t,i)∈cx.ty->TIok P t i)(CY:Jw P sp G cx ry cl X W0){kw:Kw}{k:St->Kw->Tr}(h:(UQ cl cx o s kw k).holds sp G U I)(hg:Good sp cx.sm U kw)(hr:At cx U n X W0 s j a w){K:Act->World->Prop}{Q:Exit->Act->World->Prop}(hK:∀s' An U' I' j' a' w',(k s' An).holds sp G U' I'->Good sp cx.sm U' An->Nx kw An U U' I I'->At cx U' n X W0 s' j' a' w'->K a' w'):o.wpIn (Fw ro) 0 P a w K Q:=by
 unfold UQ at h;split at h
 .rename_i xt x y yt Ad;split at h
  .rename_i hy;split at h
   next id hx=>exact kE (by simp[Ad]) (ap5 hT Ad hy hx h hg hr hK)
   .rename_i hx;split at h
    .rename_i i hi;split at h
     .rename_i Gk;split at h
      .rename_i s' Bj;obtain⟨et,L7⟩:=Option.isSome_iff_exists.1 Gk;have hu:=(hT _ _ (af hi)).sle et L7;obtain⟨e1,e2,e3,_,_,_⟩:=St.app_ok hr.le Bj;have hv:a.eval x=.slice ZE 0 0:=(ZN (hr.ev hx)).symm;have Cl:(execOp a.eval o).run P w=.ok (.value (.bool ZB)) w:=by
        have h1:=Go.Lib.run_eql_slice_nil (P:=P) w xt et ZE 0 0 0 0 hu;simp only[execOp,Ad,hv,sj hy,eqGuard,ZI];exact congrArg (fun r=>Result.andThen r fun a w'=>Result.ok (Next.value a) w') h1
       refine kE (by simp[Ad]) (dH Cl (hK s' kw U I j _ w h hg (.of (.refl _) _ _) ⟨?_,by rw[e2.1];exact hr.len,by rw[e2.2];exact hr.own⟩));rw[e1];exact hr.rel.put rfl (fun d hd=>by rw[<-hr.own];exact e3 d hd)
      .exact h.elim
     .exact h.elim
    .exact h.elim
   .exact h.elim
  .exact h.elim
 .rename_i c Ad;split at h
  .rename_i f hc;have run:∀(g:Nat) (vals:List Value),(execOp a.eval o).run P w=(callFunc g vals.toArray).run P w->((callFunc g vals.toArray).run P w=.ok (.enter g vals.toArray) w/\Calls P g vals.toArray w fun e w'=>∃u,e=.returned u/\K (a.put o.dst u) w')->o.wpIn (Fw ro) 0 P a w K Q:=by
    intro g vals h6 ⟨h7,h8⟩;refine kE (by simp[Ad]) ?_;unfold Oper.wp;rw[h6,h7];show Calls P g _ w _;refine h8.mono ?_;rintro e' w' ⟨u,rfl,hk⟩;exact hk
   split at h
   .rename_i g args hf hl;split at h<;>first|exact h.elim|skip
    rename_i JM;have JM:g<yB:=by simpa[Nat.blt_eq]using JM
    obtain⟨h1,h2⟩:=jn (U:=U) (j:=j) (a:=a) hl (fun x _ v hv=>hr.ev hv);have h4:=hr.ev hf;have h5:a.eval f=.func (.func g) #[] #[]:=(ZN h4).symm;refine run g (c.args.toList.map a.eval) ?_ (ah4 CY JM h hg hr XR (fun i x hx=> ?_) hK)
    .have h7:c.args.map a.eval=(c.args.toList.map a.eval).toArray:=by rw[<-fQ]
     rw[<-h7];simp only[execOp,Ad,resolve,hc,h5,Deferred.ofValue,ZI,Sem.run_pure,Result.andThen_ok,invoke,Array.empty_append,Array.append_empty]
    .have As:i<(c.args.toList.map a.eval).length:=by
      have:=(cZ.1 hx).1;rw[h2];exact this
     exact⟨_,AH As,h1 i x _ hx (AH As)⟩
   .rename_i g fs ps args hf hl;split at h<;>first|exact h.elim|skip
    rename_i JM;have JM:g<yB:=by simpa[Nat.blt_eq]using JM
    obtain⟨h1,h2⟩:=jn (U:=U) (j:=j) (a:=a) hl (fun x _ v hv=>hr.ev hv);obtain⟨x,y,hx,hy,h5⟩:=gC (show E8 g (fg j fs) (fg j ps)=ZA (a.eval f)from hr.ev hf);obtain⟨e1,e2⟩:=mW (U:=U) hx;obtain⟨e3,e4⟩:=mW (U:=U) hy;have e5:∀(i:Nat) z,args[i]? =ZA z->∃u,(c.args.toList.map a.eval)[i]? =ZA u/\z.den U j=ZA u:=fun i z hz=>by
     have As:i<(c.args.toList.map a.eval).length:=by have:=(cZ.1 hz).1;rw[h2];exact this
     exact⟨_,AH As,h1 i z _ hz (AH As)⟩
    refine run g (x++c.args.toList.map a.eval++y) ?_ (ah4 CY JM h hg hr (by simp only[eo,e1,e3,h2]) (oX (by simp only[eo,e1,h2]) (oX e1 e2 e5) e4) hK);have h7:c.args.map a.eval=(c.args.toList.map a.eval).toArray:=by rw[<-fQ]
    have h8:(x++c.args.toList.map a.eval++y).toArray=x.toArray++c.args.map a.eval++y.toArray:=by rw[h7];simp
    rw[h8];simp only[execOp,Ad,resolve,hc,h5,Deferred.ofValue,ZI,Sem.run_pure,Result.andThen_ok,invoke]
   .rename_i id args hf hl;obtain⟨h1,h2⟩:=jn (U:=U) (j:=j) (a:=a) hl (fun x _ v hv=>hr.ev hv);have h4:(j.g.y id).map (fun l=>Value.func (.yield l) #[] #[])=ZA (a.eval f):=hr.ev hf;rw[Ay]at h4;obtain⟨l,MY,h5⟩:=h4;obtain⟨f',Ss,LK,QO,h6,h7⟩:=aqO CY h hg hr (vals:=c.args.toList.map a.eval) XR MY (fun i x hx=>by
     have As:i<(c.args.toList.map a.eval).length:=by have:=(cZ.1 hx).1;rw[h2];exact this
     exact⟨_,AH As,h1 i x _ hx (AH As)⟩) hK
    have h8:c.args.map a.eval=(c.args.toList.map a.eval).toArray:=by rw[<-fQ]
    refine⟨fun _ _=>trivial,?_⟩;rw[Oper.semAt_eq _ _ _ (by simp[Ad])];have h9:(execOp a.eval o).run P w=.ok (.round l f' Ss LK QO) w:=by rw[<-h6,<-h8];simp only[execOp,Ad,resolve,hc,<-h5,Deferred.ofValue,ZI,Sem.run_pure,Result.andThen_ok,invoke,Array.empty_append,Array.append_empty]
    rw[h9];refine⟨TH,(h7 ro).mono ?_⟩;rintro e' w' ⟨u,rfl,hk⟩;exact hk
   .exact h.elim
  .exact h.elim
 .rename_i x Ad;split at h
  next id mid hx=>exact h.elim
  .exact h.elim
 .exact h.elim
def amK{rs:List Rec}(h:rs.map (·.o)=[o]):∃r,rs=[r]:=by
 cases rs with
 |nil=>cases h
 |cons r l=>cases l with
   |nil=>exact⟨r,rfl⟩
   |cons=>simp at h
def aaB(ho:ops[i]? =ZA o){kw:Kw}{k:St->Kw->Tr}(h:(Uw o s kw k).holds sp G U I)(hg:Good sp cx.sm U kw)(hr:At cx U n X W0 s j a w)(hw:Region.wanted o (yielded ops a.tmps)=ZC){K:Act->World->Prop}{Q:Exit->Act->World->Prop}(hK:∀s' An U' I' j' a' w',(k s' An).holds sp G U' I'->Good sp cx.sm U' An->Nx kw An U U' I I'->At cx U' n X W0 s' j' a' w'->K a' w'):wpOpIn (Fw ro) 0 P ops Q i K a w:=by
 unfold Uw at h;split at h
 next s' Bj=>obtain⟨e1,e2,e3,_,_,_⟩:=St.app_ok hr.le Bj;unfold wpOpIn;simp only[ho,hw];refine⟨fun _ _=>trivial,hK s' kw U I j _ w h hg (.refl _ _ _) ⟨?_,by rw[e2.1];exact hr.len,by rw[e2.2];exact hr.own⟩⟩;rw[e1];exact hr.rel.put rfl (fun d hd=>by rw[<-hr.own];exact e3 d hd)
 .exact h.elim
def ai5(hT:∀t i,(t,i)∈cx.ty->TIok P t i)(hS:∀s∈cx.sm,SmOk P sp s)(AR:∀s∈cx.sm,∀s'∈cx.sm,s.key=s'.key->s=s')(CY:Jw P sp G cx ry cl X W0)(ho:ops[i]? =ZA o){kw:Kw}{k:St->Kw->Tr}(h:(LM cl cx ops o s kw k).holds sp G U I)(hg:Good sp cx.sm U kw)(hr:At cx U n X W0 s j a w){K:Act->World->Prop}{Q:Exit->Act->World->Prop}(hK:∀s' An U' I' j' a' w',(k s' An).holds sp G U' I'->Good sp cx.sm U' An->Nx kw An U U' I I'->At cx U' n X W0 s' j' a' w'->K a' w'):wpOpIn (Fw ro) 0 P ops Q i K a w:=by
 unfold LM at h;split at h
 .obtain⟨rs,s',An,h1,g1,l1,h2,h3,h4,h5⟩:=nM (P:=P) (base:=W0.heap.size) hT hS AR CY.2.1.symm [o] s kw _ h hg hr.le;obtain⟨r,rfl⟩:=amK h2;have e2:r.o=o:=XR;have h6:=h5 0 r rfl;rw[hr.own]at h6;subst e2;refine mB hr.rel h6 ho (fun j' a' w' h'=>hK s' An U I j' a' w' h1 g1 (.of l1 _ _) ⟨?_,by rw[h4.1];exact hr.len,by rw[h4.2];exact hr.own⟩);rw[h3];exact h'
 .split at h
  next Ie=>unfold wpOpIn;simp only[ho,Region.wanted,Ie,bm];exact anf hT CY h hg hr hK
  .rename_i g b Ie;have H6:∀v,((ops[g]?).bind (·.dst)).bind (fun t=>if Nat.blt t s.n then s.tmps.get? t else ZE)=ZA v->∃t,(ops[g]?).bind (·.dst)=ZA t/\t<n/\s.fs.tmp t=v:=by
    intro v h;rw[de]at h;obtain⟨t,h1,h2⟩:=h;split at h2
    next ht=>refine⟨t,h1,?_,by simp[St.fs,Ax,h2]⟩;rw[<-hr.own];simpa[Nat.blt_eq]using ht
    .exact XU
   split at h
   .rename_i e he;obtain⟨t,h1,h2,h3⟩:=H6 _ he;obtain⟨h4,-⟩:=ni hr.rel h1 h2;have h5:=h4 e h3;obtain⟨Cc,h6,g6,v6,l6⟩:=aO _ _ _ h hg;have MV:Nx kw Cc U U I I:=.of l6 _ _;have hw:Region.wanted o (yielded ops a.tmps)=(e.B U==b):=by
     simp only[Region.wanted,Ie,h5];cases e.B U<;>cases b<;>rfl
    split at h6
    next hb=>unfold wpOpIn;simp only[ho,hw,hb,bm];exact(anf hT CY h6 g6 hr (fun s' An U' I' j' a' w' q1 q2 q3 q4=>hK s' An U' I' j' a' w' q1 q2 (MV.trans q3) q4))
    next hb=>exact aaB ho h6 g6 hr (by rw[hw];simpa using hb) (fun s' An U' I' j' a' w' q1 q2 q3 q4=>hK s' An U' I' j' a' w' q1 q2 (MV.trans q3) q4)
   next he=>obtain⟨t,h1,h2,h3⟩:=H6 _ he;obtain⟨-,h4⟩:=ni hr.rel h1 h2;refine aaB ho h hg hr ?_ hK;simp only[Region.wanted,Ie,h4 h3];rfl
   .exact h.elim
def agS(hT:∀t i,(t,i)∈cx.ty->TIok P t i)(hS:∀s∈cx.sm,SmOk P sp s)(AR:∀s∈cx.sm,∀s'∈cx.sm,s.key=s'.key->s=s')(CY:Jw P sp G cx ry cl X W0){Q:Exit->Act->World->Prop}:
  ∀(l:List Oper) (i:Nat),(∀(m:Nat) o,l[m]? =ZA o->ops[i+m]? =ZA o)->∀(s:St) (kw:Kw) (k:St->Kw->Tr) (U:Env) (I:Nat->List Dt->Prop) (j:J) (a:Act) (w:World),(JY cl cx ops l s kw k).holds sp G U I->Good sp cx.sm U kw->At cx U n X W0 s j a w->
   (∀s' An U' I' j' a' w',(k s' An).holds sp G U' I'->Good sp cx.sm U' An->Nx kw An U U' I I'->At cx U' n X W0 s' j' a' w'->Q .normal a' w')->wpOpsIn (Fw ro) 0 P ops Q (List.range' i l.length) a w
 |[],i,hi,s,kw,k,U,I,j,a,w,h,hg,hr,hK=>by simp only[List.length_nil,List.range'_zero,wpOpsIn];exact hK s kw U I j a w h hg (.refl _ _ _) hr
 |o::l,i,hi,s,kw,k,U,I,j,a,w,h,hg,hr,hK=>by
   simp only[YQ,List.range'_succ];rw[wpOpsIn_cons];have ho:ops[i]? =ZA o:=hi 0 o rfl;have tail:∀s' An U' I' j' a' w',(JY cl cx ops l s' An k).holds sp G U' I'->Good sp cx.sm U' An->Nx kw An U U' I I'->At cx U' n X W0 s' j' a' w'->wpOpsIn (Fw ro) 0 P ops Q (List.range' (i+1) l.length) a' w':=
    fun s' An U' I' j' a' w' q1 q2 q3 q4=>agS hT hS AR CY l (i+1) (fun m o hm=>by rw[ZU,Nat.add_comm 1 m];exact hi (m+1) o XT) s' An k U' I' j' a' w' q1 q2 q4
     (fun s2 Dq U2 I2 j2 a2 w2 p1 p2 p3 p4=>hK s2 Dq U2 I2 j2 a2 w2 p1 p2 (q3.trans p3) p4)
   simp only[JY]at h;split at h
   .exact ai5 hT hS AR CY ho h hg hr tail
   .obtain⟨rs,s',An,h1,g1,l1,h2,h3,h4,h5⟩:=nM (P:=P) (base:=W0.heap.size) hT hS AR CY.2.1.symm [o] s kw _ h hg hr.le;obtain⟨r,rfl⟩:=amK h2;have e2:r.o=o:=XR;have h6:=h5 0 r rfl;rw[hr.own]at h6;subst e2;refine mB hr.rel h6 ho (fun j' a' w' h'=>tail s' An U I j' a' w' h1 g1 (.of l1 _ _) ⟨?_,by rw[h4.1];exact hr.len,by rw[h4.2];exact hr.own⟩);rw[h3];exact h'
end
section
variable {P:Program}{sp:Spec}{U:Env}{G:Env->E->Prop}{I:Nat->List Dt->Prop}{cx:Cx}{cl:Ij}{n:Nat}{X:List Value}{W0:Wb}{ro:Option Nat}{ry:Option RfS}{ops:Array Oper}
def oW:∀(l:List Oper) (k i:Nat) (p:Nat×Oper),(gA k l)[i]? =ZA p->p.1=k+i/\l[i]? =ZA p.2
 |[],k,i,p,h=>by simp[gA]at h
 |o::l,k,i,p,h=>by
   cases i with
   |zero=>simp only[gA,cD,bo]at h;subst h;exact⟨rfl,rfl⟩
   |succ i=>have:=oW l (k+1) i p (by simpa[gA]using h);exact⟨by omega,by simpa using this.2⟩
def qG:∀(l:List Oper) (k:Nat),(gA k l).length=l.length
 |[],_=>rfl
 |_::l,k=>by simp[gA,qG l (k+1)]
def qH:∀(l:List Oper) (k:Nat),(gA k l).map (·.1)=List.range' k l.length
 |[],_=>rfl
 |_::l,k=>by simp[gA,qH l (k+1),List.range'_succ]
def akN{k:Nat}(h:ops[k]? =ZA o):(k,o)∈gA 0 ops.toList:=by
 have hk:k<ops.toList.length:=by have:=(ig.1 h).1;simpa using this
 have hl:k<(gA 0 ops.toList).length:=by rw[qG];exact hk
 have h1:=AH hl;obtain⟨e1,e2⟩:=oW _ _ _ _ h1;have e3:ops.toList[k]? =ZA o:=by rw[lE];exact h
 rw[e3]at e2;have:(gA 0 ops.toList)[k]=(k,o):=Prod.ext Fn (ZN e2).symm;rw[<-this];exact List.getElem_mem hl
def aiz{p:Nat×Oper}(h:p∈gA 0 ops.toList):ops[p.1]? =ZA p.2:=by obtain⟨i,hi⟩:=List.getElem?_of_mem h;obtain⟨h1,h2⟩:=oW _ 0 i p hi;rw[h1,bP,<-lE];exact h2
def xu{l:List (Nat×Oper)}{p:Nat×Oper}(h:mT cx l=ZA p):p∈l:=by
 induction l with
 |nil=>cases h
 |cons q l ih=>
   rw[mT]at h;by_cases hb:aqN cx q.2=ZB
   .rw[ae hb]at h;rw[<-ZN h];exact bW
   .rw[aa hb]at h;exact cR _ (ih h)
def wY:∀(l:List Oper) (ms:List Nat),(l.foldl (fun ms o=>ms++[ji o ms]) ms).length=ms.length+l.length
 |[],ms=>rfl
 |o::l,ms=>by simp only[YV,wY l,eo,YQ,List.length_nil];omega
def abI:∀(l:List Oper) (ms:List Nat) (i:Nat),(i<ms.length->(l.foldl (fun ms o=>ms++[ji o ms]) ms)[i]? =ms[i]?)/\
  ∀o,l[i]? =ZA o->∃pre,pre.length=ms.length+i/\(∀k,k<pre.length->(l.foldl (fun ms o=>ms++[ji o ms]) ms)[k]? =pre[k]?)/\(l.foldl (fun ms o=>ms++[ji o ms]) ms)[ms.length+i]? =ZA (ji o pre)
 |[],ms,i=>⟨fun _=>rfl,fun o h=>by simp at h⟩
 |o::l,ms,i=>by
   simp only[YV];have ih:=abI l (ms++[ji o ms]);refine⟨fun h=>by rw[(ih i).1 XD,A9 h],fun o' h=> ?_⟩;cases i with
   |zero=>simp only[cD,bo]at h;subst h;refine⟨ms,rfl,fun k hk=>by rw[(ih k).1 XD,A9 hk],?_⟩;rw[ZR,(ih ms.length).1 (by simp),Bo (ZK _)];simp
   |succ i=>obtain⟨pre,h1,h2,h3⟩:=(ih i).2 o' Xx;simp only[eo,YQ,List.length_nil]at h1 h3;exact⟨pre,by omega,h2,by rw[show ms.length+(i+1)=ms.length+(0+1)+i by omega];exact h3⟩
def ki:∀(i k:Nat),nb (gq ops) i k=ZB->ajg ops k i:=by
 intro i
 induction i using Nat.strongRecOn with
 |_ i ih=>
   intro k hk A7 hc hd;unfold nb at hk;cases ho:ops.toList[i]? with
   |none=>have DC:=List.getElem?_eq_none_iff.1 ho;rw[bZ,cn (by unfold gq;rw[wY];simp at DC ⊢;omega)]at hk;simp at hk
   |some o=>
     obtain⟨pre,h1,h2,h3⟩:=(abI ops.toList [] i).2 o ho;simp only[List.length_nil,bP]at h1 h3;rw[bZ,show(gq ops)[i]? =ZA (ji o pre)from h3]at hk;have UW:ops[i]? =ZA o:=by rw[<-lE];exact ho
     rcases uv _ 0 hk with h4|⟨e,h4,h5,h6⟩
     .simp at h4
     .have QZ:e∈o.after:=by simpa using h4
      have hs:=hd o UW e QZ h5;rcases h6 with rfl|h6
      .exact hs
      .have As:e.on<pre.length:=by
        rcases bC e.on pre.length with h7|h7
        .exact h7
        .rw[bZ,cn h7]at h6;simp at h6
       have h7:nb (gq ops) e.on k=ZB:=by unfold nb;rw[bZ,show(gq ops)[e.on]? =pre[e.on]? from h2 e.on As,<-bZ];exact h6
       exact ih e.on Fn k h7 A7 hc (fun o' GO e' Ic Ex=>hc e.on o' GO hs e' Ic Ex)
def alw(hT:∀t i,(t,i)∈cx.ty->TIok P t i){A7 sel':Nat->Bool}(h:air cx ops A7 i o=ZB)(Cz:∀k,k<ops.size->A7 k=ZB->k≠i->sel' k=ZB):Float P ops sel' i o:=by
 simp only[air,ne]at h;obtain⟨h1,h2,h3,h4⟩:=h;refine⟨fun a w K hw=> ?_,by simpa using h1,h3,fun k ok hk BM hs Rx=> ?_⟩
 rotate_left
 .have Ko:k<ops.size:=(ig.1 hk).1;have hm:(k,ok)∈gA 0 ops.toList:=akN hk;have h5:=CB.1 h4 (k,ok) hm;simp only[fy]at h5;rcases h5 with h5|h5|h5|h5
  .exact ai (Ak h5) BM
  .rw[Cz k Ko h5 BM]at hs;cases hs
  .obtain⟨e,he,hb⟩:=List.any_eq_true.1 h5;rw[ne]at hb;exact ai (Ak hb.2) (Rx e YA hb.1)
  .exact h5
 split at h2
 next x Ad=>exact rH (.inl Ad) a
 next x Ad=>exact rH (.inr Ad) a
 .rename_i s x f Ad;split at h2
  next ti RO=>obtain⟨p,hp⟩:=Option.isSome_iff_exists.1 h2;exact ym Ad (hT _ _ (af RO)) (off:=p.1) (ft:=p.2) hp hw
  .exact XU
 next t x y Ad=>exact yl Ad hw
 next x Ad=>exact aeV Ad hw
 next t x l h' m Ad=>exact yk Ad hw
 .exact XU
def ag7{ms:List Nat}{p:Nat×Rec}{l:List (Nat×Rec)}(h:T2 ops ms p l=ZB)(q:Nat×Rec)(hq:q∈l):nb ms p.1 q.1=ZB\/Indep ops q.2 p.2:=by
 induction l with
 |nil=>cases hq
 |cons x l ih=>
   rw[T2,ne,fy]at h;rcases YS.1 hq with e|hq
   .rw[e];exact h.1.imp id abU
   .exact ih h.2 hq
def pI{ms:List Nat}:∀{l pre:List (Nat×Rec)},oL ops ms pre l=ZB->∀(m q:Nat) x r,m<q->pre.length<=q->(pre++l)[m]? =ZA x->(pre++l)[q]? =ZA r->nb ms r.1 x.1=ZB\/Indep ops x.2 r.2
 |[],pre,_,m,q,x,r,hm,hq,hx,hr=>by rw[List.append_nil,cn hq]at hr;cases hr
 |p::l,pre,h,m,q,x,r,hm,hq,hx,hr=>by
   simp only[oL,ne]at h;rcases bC pre.length q with h1|h1
   .exact pI h.2 m q x r hm XD Xz (by simpa using hr)
   .have:q=pre.length:=by omega
    subst this;rw[Bo (ZK _)]at hr;simp only[Nat.sub_self,cD,bo]at hr;subst hr;rw[A9 hm]at hx;exact ag7 h.1 x (fI hx)
def WH:∀{A:List (Nat×Oper)} {rs:List Rec},rs.map (·.o)=A.map (·.2)->∀(m:Nat) p,((A.map (·.1)).zip rs)[m]? =ZA p->A[m]? =ZA (p.1,p.2.o)/\rs[m]? =ZA p.2
 |[],rs,_,m,p,hp=>by simp at hp
 |a::A,[],h,m,p,hp=>by simp at h
 |a::A,r::rs,h,m,p,hp=>by
   simp only[List.map_cons,Be]at h;cases m with
   |zero=>simp only[List.map_cons,List.zip_cons_cons,cD,bo]at hp;subst hp;exact⟨by rw[h.1];rfl,rfl⟩
   |succ m=>exact WH h.2 m p (by simpa using hp)
def xM:∀{A:List (Nat×Oper)} {rs:List Rec},rs.map (·.o)=A.map (·.2)->((A.map (·.1)).zip rs).map (·.1)=A.map (·.1)
 |[],rs,_=>by simp
 |a::A,[],h=>by simp at h
 |a::A,r::rs,h=>by simp only[List.map_cons,Be]at h;simp[xM h.2]
def sQ:∀{A:List (Nat×Oper)} {rs:List Rec} (F:Fz),rs.map (·.o)=A.map (·.2)->∀m,rp (((A.map (·.1)).zip rs).take m) F=Ck (rs.take m) F
 |[],[],F,_,m=>by simp[rp,Ck]
 |[],r::rs,F,h,m=>by simp at h
 |a::A,[],F,h,m=>by simp at h
 |a::A,r::rs,F,h,m=>by
   simp only[List.map_cons,Be]at h;cases m with
   |zero=>rfl
   |succ m=>simp only[List.map_cons,List.zip_cons_cons,List.take_succ_cons,rp,Ck,YV];exact sQ (F.rec' r) h.2 m
def arl(h:sK ops=ZB)(ho:ops[i]? =ZA o):∀e∈o.after,ZX .any e=ZB->e.on<i:=by
 intro e he hb;have hm:(i,o)∈gA 0 ops.toList:=by
  have As:=(ig.1 ho).1;have:i<(gA 0 ops.toList).length:=by rw[qG];simpa using As
  have h1:=AH this;obtain⟨h2,h3⟩:=oW _ 0 i _ h1;rw[<-lE]at ho;rw[ho]at h3;have:(gA 0 ops.toList)[i]=(i,o):=Prod.ext (by rw[h2,bP]) (ZN h3).symm;rw[<-this];exact List.getElem_mem _
 unfold sK at h;rw[ne]at h;have:=CB.1 (CB.1 h.2 _ hm) e YA;simpa[hb,Nat.blt_eq]using this
def ac9(h:sK ops=ZB)(j:Nat)(o:Oper)(c:Call)(ho:ops[j]? =ZA o):o.op≠.defer c:=by unfold sK at h;rw[ne]at h;have:=CB.1 h.1 o (by rw[<-lE]at ho;exact fI ho);intro e;rw[e]at this;cases this
def apE(hT:∀t i,(t,i)∈cx.ty->TIok P t i)(hS:∀s∈cx.sm,SmOk P sp s)(AR:∀s∈cx.sm,∀s'∈cx.sm,s.key=s'.key->s=s')(CY:Jw P sp G cx ry cl X W0)(hb:sK ops=ZB){Q:Exit->Act->World->Prop}(hQ:∀c a w,¬Q (.panic c) a w):
  ∀(m:Nat) (C9:List (Nat×Oper)) (s:St) (kw:Kw) (k:St->Kw->Tr) (U:Env) (I:Nat->List Dt->Prop) (Aa:Array Bool) (j:J) (a:Act) (w:World),(Mu cl cx ops (gq ops) m C9 s kw k).holds sp G U I->Good sp cx.sm U kw->At cx U n X W0 s j a w->
   (∀p∈C9,ops[p.1]? =ZA p.2)->(C9.map (·.1)).Nodup->Aa.size=ops.size->iL ops (fun i=>Aa.getD i ZC)->(∀i,i<ops.size->(Aa.getD i ZC=ZC↔∃p∈C9,p.1=i))->
   (∀s' An U' I' j' a' w',(k s' An).holds sp G U' I'->Good sp cx.sm U' An->Nx kw An U U' I I'->At cx U' n X W0 s' j' a' w'->Q .normal a' w')->∀fuel,Nn ops Aa<=fuel->wpAnyIn (Fw ro) 0 P .any ops Q fuel Aa a w:=by
 intro m
 induction m with
 |zero=>intro C9 s kw k U I Aa j a w h;exact h.elim
 |succ m ih=>
   intro C9 s kw k U I Aa j a w h hg hr Ad E1 BR hc D0 hK fuel hf;have part:∀(A:List (Nat×Oper)) (I4:List (Nat×Oper)) (rs:List Rec) (s':St) (An:Kw),(∀p∈A,p∈C9)->(A.map (·.1)).Nodup->(∀p∈C9,p∈A\/∃q∈I4,q.1=p.1)->
    KwGe An kw->rs.map (·.o)=A.map (·.2)->s'.fs=Ck rs s.fs->(s'.tmps.length=s.tmps.length/\s'.n=s.n)->(∀(m:Nat) r,rs[m]? =ZA r->RecOk P W0.hw U s.n W0.heap.size cx.fbs ops r (Ck (rs.take m) s.fs))->UB cx ops (gq ops) ((A.map (·.1)).zip rs) I4=ZB->
    (∀(AB:Array Bool) j' a' w',AB.size=ops.size->iL ops (fun i=>AB.getD i ZC)->(∀i,AB.getD i ZC=ZB↔(Aa.getD i ZC=ZB\/∃p∈A,p.1=i))->At cx U n X W0 s' j' a' w'->∀fuel,Nn ops AB<=fuel->wpAnyIn (Fw ro) 0 P .any ops Q fuel AB a' w')->
    wpAnyIn (Fw ro) 0 P .any ops Q fuel Aa a w:=by
    intro A I4 rs s' An hA hndA Ow hkw h2 h3 h4 h5 JP L5;simp only[UB,ne]at JP;obtain⟨g1,g2,g3⟩:=JP;have Mp:∀p,p∈(A.map (·.1)).zip rs->(p.1,p.2.o)∈A:=fun p hp=>by obtain⟨i,hi⟩:=List.getElem?_of_mem hp;exact fI (WH h2 i p hi).1
    have Me:∀i,(∃p∈A,p.1=i)->∃p∈(A.map (·.1)).zip rs,p.1=i:=fun i ⟨p,hp,e⟩=>by
     have:i∈((A.map (·.1)).zip rs).map (·.1):=by rw[xM h2];exact List.mem_map.2 ⟨p,hp,e⟩
     obtain⟨q,hq,e2⟩:=List.mem_map.1 this;exact⟨q,hq,e2⟩
    refine ape (fb:=cx.fbs) (n:=n) (X:=X) (W0:=W0) (U:=U) (F0:=s.fs) (L:=(A.map (·.1)).zip rs) (base:=fun i=>Aa.getD i ZC) hQ (ac9 hb) (fun p hp=>Ad _ (hA _ (Mp p hp))) (by rw[xM h2];exact hndA) (fun i p hp=> ?_) (fun i q x r hiq hx hq=> ?_) (fun p hp e he hbd=> ?_) (fun i hi Ct OK p hp=> ?_) (fun AB j' a' w' Bj Gg B4 IE=> ?_)
     _ Aa j a w (ZK _) BR hc (fun i hi=>.inl hi) (fun i hi=>hi) ?_ fuel hf
    .rw[sQ s.fs h2];have:=h5 i p.2 (WH h2 i p hp).2;rw[hr.own]at this;exact this
    .rcases pI g1 i q x r hiq (Nat.zero_le _) Xz (by simpa using hq)with h6|h6
     .exact .inr (ki _ _ h6)
     .exact .inl h6
    .have h6:=CB.1 (CB.1 g2 p hp) e YA;simp only[hbd,Bool.not_true,Bool.false_or,ne,Nat.blt_eq]at h6;refine⟨h6.1,?_⟩;cases Je:Aa.getD e.on ZC with
     |true=>exact .inl rfl
     |false=>
       right;have hpl:=(ig.1 (Ad _ (hA _ (Mp p hp)))).1;obtain⟨q,hq,e1⟩:=(D0 e.on (Nat.lt_trans h6.1 hpl)).1 Je;rcases Ow q hq with h7|⟨q2,h7,e2⟩
       .exact Me _ ⟨q,h7,e1⟩
       .exfalso;have:=CB.1 h6.2 q2 h7;rw[e2,e1]at this;simp at this
    .obtain⟨q,hq,e1⟩:=(D0 i hi).1 Ct;rcases Ow q hq with h7|⟨q2,h7,e2⟩
     .exfalso;obtain⟨x,hx,ex⟩:=Me i ⟨q,h7,e1⟩;exact OK x hx ex
     .have h8:=CB.1 (CB.1 g3 q2 h7) p hp;simp only[fy]at h8;rw[e2,e1]at h8;rcases h8 with h8|h8
      .exact .inr (ki _ _ h8)
      .refine .inl (alw hT h8 fun k hk P6 BM=> ?_);simp only[ne,ZO,List.any_eq_false,ne]at P6;show(Aa.getD k ZC||_)=ZB;cases hlk:Aa.getD k ZC with
       |true=>rfl
       |false=>
         obtain⟨q3,hq3,e3⟩:=(D0 k hk).1 hlk;rcases Ow q3 hq3 with h9|⟨q4,h9,e4⟩
         .obtain⟨x,hx,ex⟩:=Me k ⟨q3,h9,e3⟩;have:=P6.2 x hx;rw[Bool.false_or,List.any_eq_true];refine⟨x,hx,?_⟩;rw[ex]at this ⊢;simpa using this
         .have:=P6.1 q4 h9;rw[e4,e3]at this;simp at this
    .refine L5 AB j' a' w' Bj Gg (fun i=>⟨fun h=> ?_,fun h=> ?_⟩) ⟨?_,by rw[h4.1];exact hr.len,by rw[h4.2];exact hr.own⟩
     .rcases(B4 i).1 h with h|⟨p,hp,e⟩
      .exact .inl h
      .exact .inr ⟨_,Mp p hp,e⟩
     .rcases h with h|h
      .exact(B4 i).2 (.inl h)
      .exact(B4 i).2 (.inr (Me i h))
     .rw[h3];have:=sQ s.fs h2 rs.length;rw[List.take_of_length_le (by rw[List.length_zip];omega),List.take_of_length_le (ZK _)]at this;rw[<-this];exact IE
    .rw[rQ]
     .exact hr.rel
     .intro p hp;have P3:=hA _ (Mp p hp);exact(D0 p.1 (ig.1 (Ad _ P3)).1).2 ⟨_,P3,rfl⟩
   simp only[Mu]at h;split at h
   ·
    obtain⟨rs,s',An,h1,g1,l1,h2,h3,h4,h5⟩:=nM (P:=P) (base:=W0.heap.size) hT hS AR CY.2.1.symm (C9.map (·.2)) s kw _ h hg hr.le;split at h1
    .rename_i JP;refine part C9 [] rs s' An (fun p hp=>hp) E1 (fun p hp=>.inl hp) l1 h2 h3 h4 h5 JP (fun AB j' a' w' Bj Gg B4 Dx Ja _=> ?_);refine wpAnyIn_done ?_ (hK s' An U I j' a' w' h1 g1 (.of l1 _ _) Dx) Ja;cases By:Region.ready .any ops AB with
     |nil=>rfl
     |cons i l=>
       exfalso;have hi:i∈Region.ready .any ops AB:=by rw[By];exact bW
       obtain⟨hu,o,ho,_⟩:=mem_ready.1 hi;have PZ:=(ig.1 ho).1;have:AB.getD i ZB=AB.getD i ZC:=by rw[iB,iB,Array.getElem?_eq_getElem Fn];rfl
       rw[this]at hu;have h6:AB.getD i ZC=ZB:=by
        cases Je:Aa.getD i ZC with
        |true=>exact(B4 i).2 (.inl Je)
        |false=>exact(B4 i).2 (.inr ((D0 i PZ).1 Je))
       rw[h6]at hu;cases hu
    .exact h1.elim
   .rename_i ci co hbar;have Rr:=xu hbar;have US:=Ad _ Rr;split at h
    rotate_left
    ·
     exact h.elim
    obtain⟨rs,s',An,h1,g1,l1,h2,h3,h4,h5⟩:=nM (P:=P) (base:=W0.heap.size) hT hS AR CY.2.1.symm _ s kw _ h hg hr.le;split at h1
    .rename_i JP;have idxT:∀{p q:Nat×Oper},p∈C9->q∈C9->p.1=q.1->p=q:=by
      intro p q hp hq e;have h6:=Ad p hp;have h7:=Ad q hq;rw[e,h7]at h6;exact Prod.ext e (ZN h6).symm
     refine part _ _ rs s' An (fun p hp=>(List.mem_filter.1 hp).1) (E1.sublist (List.Sublist.map _ List.filter_sublist)) (fun p hp=> ?_) l1 h2 h3 h4 h5 JP (fun AB j' a' w' Bj Gg B4 Dx Ja hf'=> ?_)
     .by_cases e1:p.1=ci
      .exact .inr ⟨(ci,co),bW,e1.symm⟩
      .have e2:ZJ p.1 ci=ZC:=by
        cases DU:ZJ p.1 ci with
        |false=>rfl
        |true=>exact ai (Ak DU) e1
       cases hbit:nb (gq ops) p.1 ci with
       |false=>exact .inl (List.mem_filter.2 ⟨hp,by simp[e2,hbit]⟩)
       |true=>exact .inr ⟨p,cR _ (List.mem_filter.2 ⟨hp,by simp[e2,hbit]⟩),rfl⟩
     ·
      have KQ:ci<ops.size:=(ig.1 US).1;have gd:∀i,i<ops.size->AB.getD i ZB=AB.getD i ZC:=fun i hi=>by rw[iB,iB,Array.getElem?_eq_getElem Fn];rfl
      have left:∀i,i<ops.size->(AB.getD i ZC=ZC↔(i=ci\/∃p∈C9.filter fun p=>nb (gq ops) p.1 ci &&!ZJ p.1 ci,p.1=i)):=by
       intro i hi;constructor
       .intro h6;have h7:Aa.getD i ZC=ZC:=by
         cases Je:Aa.getD i ZC with
         |false=>rfl
         |true=>rw[(B4 i).2 (.inl Je)]at h6;cases h6
        obtain⟨p,hp,rfl⟩:=(D0 i hi).1 h7;by_cases e1:p.1=ci
        .exact .inl e1
        .right;have e2:ZJ p.1 ci=ZC:=by
          cases DU:ZJ p.1 ci with
          |false=>rfl
          |true=>exact ai (Ak DU) e1
         cases hbit:nb (gq ops) p.1 ci with
         |true=>exact⟨p,List.mem_filter.2 ⟨hp,by simp[e2,hbit]⟩,rfl⟩
         |false=>exfalso;have:=(B4 p.1).2 (.inr ⟨p,List.mem_filter.2 ⟨hp,by simp[e2,hbit]⟩,rfl⟩);rw[this]at h6;cases h6
       .intro h6;cases Je:AB.getD i ZC with
        |false=>rfl
        |true=>
          exfalso;rcases(B4 i).1 Je with h7|⟨p,hp,e⟩
          .have De:∃p∈C9,p.1=i:=by
            rcases h6 with rfl|⟨p,hp,e⟩
            .exact⟨_,Rr,rfl⟩
            .exact⟨p,(List.mem_filter.1 hp).1,e⟩
           rw[(D0 i hi).2 De]at h7;cases h7
          .obtain⟨UY,ON⟩:=List.mem_filter.1 hp;rcases h6 with rfl|⟨q,hq,e2⟩
           .rw[e]at ON;simp at ON
           .obtain⟨OO,GQ⟩:=List.mem_filter.1 hq;have:=idxT UY OO (e.trans e2.symm);subst this;simp only[ne,ZO]at ON GQ;rw[ON.2]at GQ;exact ai GQ.1 (by simp)
      have Mc:AB.getD ci ZC=ZC:=(left ci KQ).2 (.inl rfl);have notB:∀i,AB.getD i ZC=ZC->i<ops.size->i≠ci->∀o,ops[i]? =ZA o->¬∀e∈o.after,ZX .any e=ZB->AB.getD e.on ZC=ZB:=by
       intro i hu PZ BM o ho A8;rcases(left i PZ).1 hu with h6|⟨p,hp,rfl⟩
       .exact BM h6
       .have h7:=(List.mem_filter.1 hp).2;simp only[ne]at h7;have:=ki _ _ h7.1 (fun i=>AB.getD i ZC) Gg (fun o' GO e he DU=>by
         rw[ho]at GO;cases GO;exact A8 e he DU)
        (try dsimp only at this)
        rw[Mc]at this;cases this
      obtain⟨f,rfl⟩:∃f,Ja=f+1:=by
       cases Ja with
       |zero=>have:=uL (ops:=ops) Bj KQ Mc;omega
       |succ f=>exact⟨f,rfl⟩
      have step:wpOpIn (Fw ro) 0 P ops Q ci (wpAnyIn (Fw ro) 0 P .any ops Q f (AB.setIfInBounds ci ZB)) a' w'\/¬(∀e∈co.after,ZX .any e=ZB->AB.getD e.on ZC=ZB):=by
       by_cases A8:∀e∈co.after,ZX .any e=ZB->AB.getD e.on ZC=ZB
       .left;refine ai5 hT hS AR CY US h1 g1 Dx (fun s2 Dq U2 I2 j2 a2 w2 q1 q2 q3 q4=> ?_);have Cw:∀k,(AB.setIfInBounds ci ZB).getD k ZC=if k=ci then ZB else AB.getD k ZC:=by
         intro k;rw[iB,Array.getElem?_setIfInBounds];by_cases hk:k=ci
         .subst hk;simp[Bj,KQ]
         .have Ly:¬ci=k:=fun e=>hk e.symm;simp[hk,Ly,iB]
        refine ih _ s2 Dq k U2 I2 (AB.setIfInBounds ci ZB) j2 a2 w2 q1 q2 q4 (fun p hp=>Ad p (List.mem_filter.1 hp).1) (E1.sublist (List.Sublist.map _ List.filter_sublist)) (by simp[Bj]) (sG Bj US Gg A8) (fun i hi=> ?_)
         (fun s3 kw3 U3 I3 j3 a3 w3 p1 p2 p3 p4=>hK s3 kw3 U3 I3 j3 a3 w3 p1 p2 ((Nx.of l1 _ _).trans (q3.trans p3)) p4) f (by have:=uL (ops:=ops) Bj KQ Mc;omega)
        rw[Cw];split
        next e=>subst e;refine⟨fun h=>Xo,fun⟨p,hp,e⟩=> ?_⟩;have:=(List.mem_filter.1 hp).2;rw[e]at this;simp at this
        next BM=>rw[left i hi];exact⟨fun h=>h.resolve_left BM,.inr⟩
       .exact .inr A8
      refine⟨fun Eh=> ?_,fun i hi=> ?_⟩
      .exfalso;have key:∀(k:Nat),k<ops.size->AB.getD k ZC=ZC->False:=by
        intro k
        induction k using Nat.strongRecOn with
        |_ k ihk=>
          intro Ko hku;obtain⟨o,ho⟩:∃o,ops[k]? =ZA o:=⟨ops[k],Array.getElem?_eq_getElem Ko⟩
          have:k∈Region.ready .any ops AB:=by
           rw[mem_ready];refine⟨by rw[gd k Ko];exact hku,o,ho,fun e he DU=> ?_⟩;have As:=arl hb ho e he DU;cases Je:AB.getD e.on ZC with
           |true=>rfl
           |false=>exact(ihk e.on As (Nat.lt_trans As Ko) Je).elim
          rw[Eh]at this;cases this
       exact key ci KQ Mc
      .obtain⟨hu,o,ho,A8⟩:=mem_ready.1 hi;have PZ:=(ig.1 ho).1;rw[gd i PZ]at hu;by_cases BM:i=ci
       .subst BM;rw[US]at ho;cases ho;rcases step with h6|h6
        .exact h6
        .exact ai A8 h6
       .exact ai A8 (notB i hu PZ BM o ho)
    .exact h1.elim
end
section
variable {P:Program}{sp:Spec}{U:Env}{G:Env->E->Prop}{I:Nat->List Dt->Prop}{cx:Cx}{cl:Ij}{n:Nat}{X:List Value}{W0:Wb}{ro:Option Nat}{ry:Option RfS}{rl:Option RlK}
def adi(tm:Nat->V)(heap:List Ob)(y:Lp):Ax tm (heap++[.loop y])=(Ax tm heap).setl heap.length (ZA y):=by
 refine Fz.ext' (fun _=>rfl) (fun b=> ?_) (fun b=> ?_) (fun b=> ?_)
 .simp only[Fz.setl,Ax,Ce];rcases Nat.lt_trichotomy b heap.length with h|h|h
  .rw[A9 h]
  .subst h;simp
  .rw[cn XD,cn Fn]
 .simp only[Fz.setl,Ax,BP];rcases Nat.lt_trichotomy b heap.length with h|h|h
  .rw[A9 h]
  .subst h;simp
  .rw[cn XD,cn Fn]
 .simp only[Fz.setl,Ax,Hh];rcases Nat.lt_trichotomy b heap.length with h|h|h
  .rw[A9 h,aa Fn]
  .subst h;simp
  .rw[cn XD,cn Fn,aa Fn]
def sq{tm:Nat->V}{heap:List Ob}{id:Nat}(h:heap[id]? =ZA (.loop y))(y':Lp):Ax tm (heap.set id (.loop y'))=(Ax tm heap).setl id (ZA y'):=by
 have As:=(cZ.1 h).1;refine Fz.ext' (fun _=>rfl) (fun b=> ?_) (fun b=> ?_) (fun b=> ?_)
 .simp only[Fz.setl,Ax,Ce,em];by_cases e:id=b
  .exact YK
  .simp only[e,eA]
 .simp only[Fz.setl,Ax,BP,em];by_cases e:id=b
  .exact YK
  .simp only[e,eA]
 .simp only[Fz.setl,Ax,Hh,em];by_cases e:id=b
  .subst e;simp only[bm,As]
  .exact Ys
def adj{tm:Nat->V}{heap:List Ob}{id:Nat}(h:heap[id]? =ZA (.loop y)):Ax tm (heap.set id .gone)=(Ax tm heap).endl id:=by
 have As:=(cZ.1 h).1;refine Fz.ext' (fun _=>rfl) (fun b=> ?_) (fun b=> ?_) (fun b=> ?_)
 .simp only[Fz.endl,Ax,Ce,em];by_cases e:id=b
  .exact YK
  .simp only[e,eA]
 .simp only[Fz.endl,Ax,BP,em];by_cases e:id=b
  .subst e;simp only[bm,As]
  .exact Ys
 .simp only[Fz.endl,Ax,Hh,em];by_cases e:id=b
  .subst e;simp only[bm,As]
  .exact Ys
def ow{heap:List Ob}{id:Nat}:Hh heap id=ZA y↔heap[id]? =ZA (.loop y):=by
 unfold Hh;constructor
 .intro h;split at h
  next y' hy=>cases h;exact hy
  .exact Xo
 .intro h;rw[h]
def ap4{heap:List Ob}(h:uj heap=ZB)(i:Nat):Hh heap i=ZE:=by
 cases hl:Hh heap i with
 |none=>rfl
 |some y=>have:=CB.1 h _ (fI (ow.1 hl));cases this
def Xb{heap:List Ob}{id:Nat}(h:uj (heap.set id .gone)=ZB)(i:Nat)(y:Lp)(hy:Hh heap i=ZA y):i=id:=by
 refine Classical.byContradiction fun BM=> ?_;have h1:=ap4 h i;have h2:=ow.1 hy;have:(heap.set id .gone)[i]? =ZA (.loop y):=by rw[em,aa (fun e=>BM e.symm)];exact h2
 rw[ow.2 this]at h1;cases h1
def acA{f:Operand}{id:Nat}(hr:At cx U n X W0 s j a w)(h:xP (HF s.n s.tmps f) id=ZA (g,args)):
  ∃x y:List Value,a.eval f=.func (.func g) x.toArray y.toArray/\∀(j1:J) (l:Nat),Sub j j1->j1.g.y id=ZA l->(x++[Value.func (.yield l) #[] #[]]++y).length=args.length/\∀(i:Nat) v,args[i]? =ZA v->∃u,(x++[Value.func (.yield l) #[] #[]]++y)[i]? =ZA u/\v.den U j1=ZA u:=by
 have mid:∀(j1:J) (l:Nat),j1.g.y id=ZA l->∀(i:Nat) v,[V.one (.yld id)][i]? =ZA v->∃u,[Value.func (.yield l) #[] #[]][i]? =ZA u/\v.den U j1=ZA u:=by
  intro j1 l hl i v hv;cases i with
  |zero=>simp only[cD,bo]at hv;subst hv;exact⟨_,rfl,by simp only[V.den,C.den,hl,YR]⟩
  |succ i=>simp at hv
 unfold xP at h;split at h
 next g' hf=>cases h;have h4:=hr.ev hf;exact⟨[],[],(ZN h4).symm,fun j1 l hs hl=>⟨rfl,by simpa using mid j1 l hl⟩⟩
 .rename_i g' fs ps hf;cases h;obtain⟨x,y,hx,hy,h5⟩:=gC (show E8 g (fg j fs) (fg j ps)=ZA (a.eval f)from hr.ev hf);obtain⟨e1,e2⟩:=mW (U:=U) hx;obtain⟨e3,e4⟩:=mW (U:=U) hy;have up:∀{j1:J} (hs:Sub j j1) {l:List V} {us:List Value},(∀(i:Nat) v,l[i]? =ZA v->∃u,us[i]? =ZA u/\v.den U j=ZA u)->∀(i:Nat) v,l[i]? =ZA v->∃u,us[i]? =ZA u/\v.den U j1=ZA u:=fun hs l us hh i v hv=>by
   obtain⟨u,h1,h2⟩:=hh i v hv;exact⟨u,h1,V.den_sub hs h2⟩
  exact⟨x,y,h5,fun j1 l hs hl=>⟨by simp only[eo,e1,e3,List.length_singleton],oX (by simp only[eo,e1,List.length_singleton]) (oX e1 (up hs e2) (mid j1 l hl)) (up hs e4)⟩⟩
 .exact Xo
def oY(CY:CallOk P sp G cx ry cl)(hrl:∀f,rl=ZA f->ro=ZE/\∀r,CallOk P sp G cx (ZA r) (f r))(hm:P.follows .mixedOrders=ZB)(hT:∀t i,(t,i)∈cx.ty->TIok P t i)(hS:∀s∈cx.sm,SmOk P sp s)(AR:∀s∈cx.sm,∀s'∈cx.sm,s.key=s'.key->s=s')(fuel:Nat):
  ∀(c:Code) (W0:Wb) (s:St) (kw:Kw) (k:Sig->St->Kw->Tr) (Q:Exit->Act->World->Prop) (U:Env) (I:Nat->List Dt->Prop) (j:J) (a:Act) (w:World),Tie sp ry X W0->(rl.isSome=ZB->W0.top=ZB/\W0.rf=ZE)->(gK cl rl cx fuel c s kw k).holds sp G U I->Good sp cx.sm U kw->At cx U n X W0 s j a w->
   (∀M' sg s' An U' I' j' a' w',(rl=ZE->M'=W0.M)->(k sg s' An).holds sp G U' I'->Good sp cx.sm U' An->Ag kw.vk.length U U'->(∀m,m<kw.lv->I' m=I m)->kw.lv<=An.lv->kw.vk.length<=An.vk.length->At cx U' n X {W0 with M:=M'} s' j' a' w'->Q sg.exit' a' w')->c.wpIn (Fw ro) 0 P Q a w:=by
 intro c
 induction c with
 |skip=>intro W0 s kw k Q U I j a w ht ET h hg hr hQ;exact wpIn_skip (hQ W0.M _ _ _ _ _ _ _ _ (fun _=>rfl) h hg (.refl _ _) (fun _ _=>rfl) (ZK _) (ZK _) hr)
 |label l=>intro W0 s kw k Q U I j a w ht ET h hg hr hQ;exact wpIn_label (hQ W0.M _ _ _ _ _ _ _ _ (fun _=>rfl) h hg (.refl _ _) (fun _ _=>rfl) (ZK _) (ZK _) hr)
 |exit id=>intro W0 s kw k Q U I j a w ht ET h hg hr hQ;exact wpIn_exit (hQ W0.M (.exit id) _ _ _ _ _ _ _ (fun _=>rfl) h hg (.refl _ _) (fun _ _=>rfl) (ZK _) (ZK _) hr)
 |ret=>intro W0 s kw k Q U I j a w ht ET h hg hr hQ;exact wpIn_ret (hQ W0.M .ret _ _ _ _ _ _ _ (fun _=>rfl) h hg (.refl _ _) (fun _ _=>rfl) (ZK _) (ZK _) hr)
 |scope c ih=>intro W0 s kw k Q U I j a w ht ET h hg hr hQ;refine lC (ih W0 s kw k _ U I j a w ht ET h hg hr fun M' sg s' An U' I' j' a' w' q0 q1 q2 q3 q4 q5 q6 q7=> ?_);have:=hQ M' sg s' An U' I' j' a' w' q0 q1 q2 q3 q4 q5 q6 q7;cases sg<;>exact this
 |region id ops draw=>
   intro W0 s kw k Q U I j a w ht ET h hg hr hQ;simp only[gK]at h;split at h
   .obtain⟨rs,s',An,h1,g1,l1,h2,h3,h4,h5⟩:=nM (P:=P) (base:=W0.heap.size) hT hS AR ht.1.symm ops.toList s kw _ h hg hr.le;rw[hr.own]at h5;have Hq:∀j' a' w',(k .normal s' An).holds sp G U I->Rel U n X W0 cx.fbs (Ck rs s.fs) j' a' w'->Q .normal a' w':=fun j' a' w' hk AV=>
     hQ W0.M .normal s' An U I j' a' w' (fun _=>rfl) hk g1 (.refl _ _) (fun _ _=>rfl) (by rw[l1.lv];exact ZK _) l1.vk ⟨by rw[h3];exact AV,by rw[h4.1];exact hr.len,by rw[h4.2];exact hr.own⟩
    cases draw with
    |false=>
      refine wpIn_region ?_;have BR:ops.size=rs.length:=by rw[<-Array.length_toList,<-h2,List.length_map]
      rw[BR,List.range_eq_range'];exact rP (P:=P) rs [] s.fs (by simpa using h2.symm) (by simpa using h5) (by simpa[Ck]using hr.rel) (fun j' a' w' AV=>Hq j' a' w' h1 (by simpa using AV))
    |true=>
      simp only[bm]at h1;split at h1
      .rename_i hord;obtain⟨g2,g3⟩:=ag9 (ops:=ops) am6 rs [] [] (by simpa using h2.symm) hord rfl (fun i hi=>by simp at hi);refine wpIn_region_any hm ?_;have BR:ops.size=rs.length:=by rw[<-Array.length_toList,<-h2,List.length_map]
       refine ac4 (F0:=s.fs) (L:=rs) h2.symm h5 (fun i o ho e he hb=> ?_) (fun k i x r hk hx hri=>by simpa using g3 k i x r hk (Nat.zero_le _) Xz (by simpa using hri)) (fun j' a' w' AV=>Hq j' a' w' h1 AV) ops.size (Array.replicate ops.size ZC) j a _ (by simp[BR]) ?_ ?_ ?_
       .have As:i<rs.length:=by
         rw[<-BR];rcases bC i ops.size with h6|h6
         .exact h6
         .rw[Array.getElem?_eq_none h6]at ho;cases ho
        have hri:rs[i]? =ZA rs[i]:=AH As;have:=am6 i _ rs h2.symm hri;rw[ho]at this;cases this;exact g2 i _ (Nat.zero_le _) (by simp) e he hb
       .intro i o _ hs;simp only[iB,Array.getElem?_replicate]at hs;split at hs<;>simp at hs
       .exact dd List.countP_le_length (by simp[BR])
       .rw[wM rs 0 s.fs (fun m hm=>by
         simp only[iB,Array.getElem?_replicate];split<;>simp)]
        exact hr.rel.more (Ext.refl w).drew
      .exact h1.elim
   .have hK:∀s' An U' I' j' a' w',(k .normal s' An).holds sp G U' I'->Good sp cx.sm U' An->Nx kw An U U' I I'->At cx U' n X W0 s' j' a' w'->Q .normal a' w':=
     fun s' An U' I' j' a' w' q1 q2 q3 q4=>hQ W0.M .normal s' An U' I' j' a' w' (fun _=>rfl) q1 q2 q3.ag q3.inv q3.lv q3.vk q4
    cases draw with
    |false=>refine wpIn_region ?_;rw[List.range_eq_range',<-Array.length_toList];exact agS hT hS AR ⟨CY,ht⟩ ops.toList 0 (fun m o hm=>by rw[bP,<-lE];exact hm) s kw _ U I j a w h hg hr hK
    |true=>
      simp only[bm]at h;split at h
      .rename_i hb;refine wpIn_region_any hm ?_;refine mc (Q:=fun e a w=>e=.normal/\Q .normal a w) (fun e a w h=>by rw[h.1];exact h.2) _ _ _ _ ?_;have E1:((gA 0 ops.toList).map (·.1)).Nodup:=by rw[qH];exact List.nodup_range'
       have gd:∀i,i<ops.size->(Array.replicate ops.size ZC).getD i ZC=ZC:=fun i hi=>by rw[iB,Array.getElem?_replicate,ae hi];rfl
       refine apE (W0:=W0) (n:=n) (X:=X) hT hS AR ⟨CY,ht⟩ hb (fun c a w h=>by cases h.1) _ _ s kw _ U I _ j a _ h hg ⟨hr.rel.more (Ext.refl w).drew,hr.len,hr.own⟩ (fun p hp=>aiz hp) E1 (by simp) ?_ (fun i hi=>⟨fun _=> ?_,fun _=>gd i hi⟩)
        (fun s' An U' I' j' a' w' q1 q2 q3 q4=>⟨rfl,hK s' An U' I' j' a' w' q1 q2 q3 q4⟩) ops.size ?_
       .intro i o ho hs;have:=gd i (ig.1 ho).1;exact Bool.noConfusion (hs.symm.trans this)
       .have:i∈(gA 0 ops.toList).map (·.1):=by rw[qH,List.mem_range'_1];simp;exact hi
        obtain⟨p,hp,e⟩:=List.mem_map.1 this;exact⟨p,hp,e⟩
       .exact dd List.countP_le_length (by simp)
      .exact h.elim
 |seq x y ihx ihy=>
   intro W0 s kw k Q U I j a w ht ET h hg hr hQ;simp only[gK]at h;split at h
   .refine wpIn_seq (ihx W0 s kw _ _ U I j a w ht ET h hg hr (fun M' sg s' An U' I' j' a' w' Eb h' CP CX D2 B4 CQ AV=> ?_));cases sg with
    |normal=>exact ihy {W0 with M:=M'} s' An k Q U' I' j' a' w' ht ET h' CP AV (fun M2 sg s2 Dq U2 I2 j2 a2 w2 On h2 hg2 Cf Q0 HO IG LB=>hQ M2 sg s2 Dq U2 I2 j2 a2 w2 (fun e=>(On e).trans (Eb e)) h2 hg2 (CX.trans (Cf.mono CQ)) (fun m hm=>(Q0 m Fn).trans (D2 m hm)) Fn Fn LB)
    |exit id=>exact hQ M' (.exit id) s' An U' I' j' a' w' Eb h' CP CX D2 B4 CQ AV
    |ret=>exact hQ M' .ret s' An U' I' j' a' w' Eb h' CP CX D2 B4 CQ AV
   .rename_i id pls _;split at h
    .refine wpIn_seq (ihx W0 s kw _ _ U I j a w ht ET h hg hr (fun M' sg s' An U' I' j' a' w' Eb h' CP CX D2 B4 CQ AV=> ?_));cases sg with
     |normal=>exact h'.elim
     |exit id=>exact hQ M' (.exit id) s' An U' I' j' a' w' Eb h' CP CX D2 B4 CQ AV
     |ret=>exact hQ M' .ret s' An U' I' j' a' w' Eb h' CP CX D2 B4 CQ AV
    .split at h
     .rename_i hd vks KM;have AZ:hd.tmps.length=n+X.length/\hd.n=n:=⟨(kZ KM).1.trans hr.len,(kZ KM).2.trans hr.own⟩
      obtain⟨inv,CJ,HM⟩:=h;refine wpIn_seq (ihx W0 s {kw with lv:=kw.lv+1} _ _ U (H7 I kw.lv inv) j a w ht ET CJ ⟨hg.pc,hg.vk,hg.log⟩ hr (fun M' sg s' An U' I' j' a' w' Eb h' CP CX D2 B4 CQ AV=> ?_));have xK:∀m,m<kw.lv->I' m=I m:=fun m hm=>(D2 m (by show m<kw.lv+1;omega)).trans (py I inv Fn);cases sg with
      |normal=>
        obtain⟨ds,h1,h2,j3,h3⟩:=abD (U:=U) h' CP.vk AZ CX AV;rw[D2 kw.lv (Nat.lt_succ_self _),oI]at h1;obtain⟨U2,g1,g2,g3⟩:=HM ds h2 h1;refine ihy {W0 with M:=M'} hd (kw.head vks) k Q U2 I j3 a' w' ht ET g3 (qw hg g1 (by rw[g2];exact h2)) (h3 U2 g1 g2) (fun M2 sg s2 Dq U3 I2 j2 a2 w2 On h2 hg2 Cf Q0 HO IG LB=>hQ M2 sg s2 Dq U3 I2 j2 a2 w2 (fun e=>(On e).trans (Eb e)) h2 hg2 (g1.trans (Cf.mono ?_)) (fun m hm=>Q0 m ?_) ?_ ?_ LB)
        .simp[Kw.head]
        .show m<kw.lv+1;omega
        .have:kw.lv+1<=Dq.lv:=HO;omega
        .have:(kw.vk++vks).length<=Dq.vk.length:=IG;rw[eo]at this;omega
      |exit id=>exact hQ M' (.exit id) s' An U' I' j' a' w' Eb h' CP CX xK Yu CQ AV
      |ret=>exact hQ M' .ret s' An U' I' j' a' w' Eb h' CP CX xK Yu CQ AV
     .exact h.elim
 |cond c x y ihx ihy=>
   intro W0 s kw k Q U I j a w ht ET h hg hr hQ;simp only[gK]at h;split at h
   .rename_i e he;have hc:a.eval c=.bool (e.B U):=by
     exact kO (hr.ev he)
    obtain⟨Cc,h1,g1,v1,l1⟩:=aO _ _ _ h hg;have hQ':∀M' sg s' An U' I' j' a' w',(rl=ZE->M'=W0.M)->(k sg s' An).holds sp G U' I'->Good sp cx.sm U' An->Ag Cc.vk.length U U'->(∀m,m<Cc.lv->I' m=I m)->Cc.lv<=An.lv->Cc.vk.length<=An.vk.length->At cx U' n X {W0 with M:=M'} s' j' a' w'->Q sg.exit' a' w':=by intro M' sg s' An U' I' j' a' w' Eb h' CP CX D2 B4 CQ AV;rw[v1]at CX CQ;rw[l1.lv]at D2 B4;exact hQ M' sg s' An U' I' j' a' w' Eb h' CP CX D2 B4 CQ AV
    refine wpIn_cond_split hc (fun hcb=> ?_) (fun hcb=> ?_)
    .rw[hcb]at h1;exact ihx W0 s Cc k Q U I j a w ht ET h1 g1 hr hQ'
    .rw[hcb]at h1;exact ihy W0 s Cc k Q U I j a w ht ET h1 g1 hr hQ'
   .exact h.elim
 |block id c ih=>
   intro W0 s kw k Q U I j a w ht ET h hg hr hQ;refine wpIn_block (ih W0 s kw _ _ U I j a w ht ET h hg hr (fun M' sg s' An U' I' j' a' w' Eb h' CP CX D2 B4 CQ AV=> ?_));cases sg with
   |normal=>exact hQ M' .normal s' An U' I' j' a' w' Eb h' CP CX D2 B4 CQ AV
   |ret=>exact hQ M' .ret s' An U' I' j' a' w' Eb h' CP CX D2 B4 CQ AV
   |exit i=>
     dsimp only at h';unfold Sig.exit' Exit.inBlock;dsimp only;split at h'
     next hi=>rw[ae (Ak hi)];exact hQ M' .normal s' An U' I' j' a' w' Eb h' CP CX D2 B4 CQ AV
     next hi=>rw[aa (fun e=>hi (by rw[e];simp))];exact hQ M' (.exit i) s' An U' I' j' a' w' Eb h' CP CX D2 B4 CQ AV
 |loop c ih=>
   intro W0 s kw k Q U I j a w ht ET h hg hr hQ;simp only[gK]at h;split at h
   .refine wpIn_loop_rounds fuel ?_;have key:∀(m:Nat) (M:List Nat) (s:St) (Dq:Kw) (U2:Env) (I2:Nat->List Dt->Prop) (j:J) (a:Act) (w:World),(rl=ZE->M=W0.M)->(Uv (gK cl rl cx fuel c) m s Dq k).holds sp G U2 I2->Good sp cx.sm U2 Dq->Ag kw.vk.length U U2->(∀m,m<kw.lv->I2 m=I m)->kw.lv<=Dq.lv->kw.vk.length<=Dq.vk.length->At cx U2 n X {W0 with M:=M} s j a w->Code.roundsIn (Fw ro) 0 P c Q m a w:=by
     intro m
     induction m with
     |zero=>intro M s Dq U2 I2 j a w hM h;exact h.elim
     |succ m ihm=>
       intro M s Dq U2 I2 j a w hM h hg Cf Q0 HO IG hr;rw[roundsIn_succ];simp only[Uv]at h;refine ih {W0 with M:=M} s Dq _ _ U2 I2 j a w ht ET h hg hr (fun M' sg s' An U' I' j' a' w' Eb h' CP CX D2 B4 CQ AV=> ?_);have Bd:Ag kw.vk.length U U':=Cf.trans (CX.mono IG);have MM:∀m,m<kw.lv->I' m=I m:=fun m hm=>(D2 m Fn).trans (Q0 m hm);cases sg with
       |normal=>exact ihm M' s' An U' I' j' a' w' (fun e=>(Eb e).trans (hM e)) h' CP Bd MM Fn Fn AV
       |exit id=>exact hQ M' (.exit id) s' An U' I' j' a' w' (fun e=>(Eb e).trans (hM e)) h' CP Bd MM Fn Fn AV
       |ret=>exact hQ M' .ret s' An U' I' j' a' w' (fun e=>(Eb e).trans (hM e)) h' CP Bd MM Fn Fn AV
    exact key fuel W0.M s kw U I j a w (fun _=>rfl) h hg (.refl _ _) (fun _ _=>rfl) (ZK _) (ZK _) hr
   .rename_i id pls _;split at h
    .exact h.elim
    .split at h
     .rename_i hd vks θ ex KM GJ;split at h
      .rename_i Aj;have AZ:hd.tmps.length=n+X.length/\hd.n=n:=⟨(kZ KM).1.trans hr.len,(kZ KM).2.trans hr.own⟩
       obtain⟨inv,μ,Rk,HM⟩:=h;obtain⟨d1,d2⟩:=rV Aj hg.vk AZ (.refl _ _) hr;have key:∀(m:Nat) (M:List Nat) (ds:List Dt) (a:Act) (w:World),(rl=ZE->M=W0.M)->μ ds<m->inv ds->okDs vks ds->ajf cx n X {W0 with M:=M} U kw.vk.length vks hd ds a w->Code.roundsIn (Fw ro) 0 P c Q m a w:=by
        intro m
        induction m with
        |zero=>intro M ds a w _ h;omega
        |succ m ihm=>
          intro M ds a w hM hμ De Br Dx;rw[roundsIn_succ];obtain⟨U2,g1,g2,g3⟩:=HM ds Br De;obtain⟨j2,UT⟩:=Dx;refine ih {W0 with M:=M} hd (kw.head vks) _ _ U2 _ j2 a w ht ET g3 (qw hg g1 (by rw[g2];exact Br)) (UT U2 g1 g2) (fun M' sg s' An U' I' j' a' w' Eb h' CP CX D2 B4 CQ AV=> ?_);have IG:kw.vk.length<=(kw.head vks).vk.length:=by simp[Kw.head]
          have Bd:Ag kw.vk.length U U':=g1.trans (CX.mono IG);have MM:∀m,m<kw.lv->I' m=I m:=fun m hm=>(D2 m (by show m<kw.lv+1;omega)).trans (py I _ Fn);have MR:kw.lv<=An.lv:=Yu;have P9:kw.vk.length<=An.vk.length:=Fn;cases sg with
          |normal=>obtain⟨KH,k1,k2,k3⟩:=abD (U:=U) h' CP.vk AZ Bd AV;rw[D2 kw.lv (Nat.lt_succ_self _),oI]at k1;exact ihm M' KH a' w' (fun e=>(Eb e).trans (hM e)) Fn k1.1 k2 k3
          |exit id=>exact hQ M' (.exit id) s' An U' I' j' a' w' (fun e=>(Eb e).trans (hM e)) h' CP Bd MM MR P9 AV
          |ret=>exact hQ M' .ret s' An U' I' j' a' w' (fun e=>(Eb e).trans (hM e)) h' CP Bd MM MR P9 AV
       exact wpIn_loop_rounds (μ ((Cv vks θ).D U)+1) (key _ W0.M _ a w (fun _=>rfl) (Nat.lt_succ_self _) Rk d1 d2)
      .exact h.elim
     .exact h.elim
 |rangeFunc f ps assign body=>
   intro W0 s kw k Q U I j a w ht ET h hg hr hQ;simp only[gK]at h;split at h<;>first|exact h.elim|skip
   rename_i rlf g args B3 _ _;split at h<;>first|exact h.elim|skip
   rename_i Ea;rw[ne]at Ea;have JM:g<yB:=by simpa[Nat.blt_eq]using Ea.1
   obtain⟨rfl,hcr⟩:=hrl _ rfl;obtain⟨w0,M0,top0,rf0,If,L8⟩:=W0;obtain⟨Mb,HV⟩:=ET rfl;dsimp only at Mb HV;subst Mb HV;obtain⟨x,y,Au,Q7⟩:=acA hr B3;refine wpIn_rangeFunc fun fn _=> ?_;obtain⟨o,ho⟩:∃o:Loop,o={state:=.ready,pending:=ZE,fn,tmps:=a.tmps,params:=ps,assign,body,defers:=w.heap.size}:=⟨_,rfl⟩
   obtain⟨rf,HV⟩:∃rf:Rf,rf=⟨ps,assign,body,a.tmps,w.heap.size+1⟩:=⟨_,rfl⟩
   have hl:rf.l=w.heap.size+1:=by rw[HV]
   have Re:(St.mk s.tmps (s.heap++[.loop ⟨.ready,ZE⟩])).fs=s.fs.setl s.heap.length (ZA ⟨.ready,ZE⟩):=adi _ _ _;have IE:=hr.rel.loopNew (id:=s.heap.length) (kg (ZK _)).1 (ap4 Ea.2 _) rfl rfl hl (o:=o) ⟨by rw[ho];rfl,by rw[ho];rfl,by rw[ho,HV],by rw[ho,HV],by rw[ho,HV],by rw[ho,HV]⟩;rw[<-Re]at IE;obtain⟨j1,hj1⟩:∃j1,j1=({j with g:=⟨fun b=>if b=s.heap.length then ZA rf.l else j.g.y b,fun k=>if k=rf.l then ZA (.loop o)else if k=w.heap.size then ZA (.deferred (ZA []))else j.g.z k⟩}:J):=⟨_,rfl⟩
   rw[<-hj1]at IE;have Qc:j1.g.y s.heap.length=ZA (w.heap.size+1):=by rw[hj1];simp[hl]
   have BG:Sub j j1:=by
    rw[hj1];exact⟨fun _ _ h=>h,fun _ _ h=>h,fun _ _ h=>h,fun b k hb=>by
     show(if b=s.heap.length then ZA rf.l else j.g.y b)=ZA k;by_cases e:b=s.heap.length
     .subst e;rw[hr.rel.gs.nol _ (kg (ZK _)).1 (ap4 Ea.2 _)]at hb;cases hb
     .rw[aa e];exact hb⟩
   obtain⟨Kk,Iy⟩:=Q7 j1 (w.heap.size+1) BG Qc;have AZ:X.length=fi s.tmps.old:=by have h1:=hr.len;have h2:=hr.own;unfold TM.length at h1;unfold St.n at h2;omega
   have key:(callFunc g (x++[Value.func (.yield (w.heap.size+1)) #[] #[]]++y).toArray).run P ((w.alloc (.deferred (ZA []))).alloc (.loop o))=.ok (.enter g (x++[Value.func (.yield (w.heap.size+1)) #[] #[]]++y).toArray) ((w.alloc (.deferred (ZA []))).alloc (.loop o))/\
    Calls P g (x++[Value.func (.yield (w.heap.size+1)) #[] #[]]++y).toArray ((w.alloc (.deferred (ZA []))).alloc (.loop o)) fun e w'=>∃u,e=.returned u/\rangePost (Fw ZE) 0 P (w.heap.size+1) Q {a with defers:={target:=.collected w.heap.size,args:= #[]}::a.defers} (.returned u) w':=by
    refine(hcr ⟨ps,assign,body,fi s.tmps.old,s.n,cx.hints,cx.cuts⟩).call g args ⟨s.tmps,s.heap++[.loop ⟨.ready,ZE⟩]⟩ kw _ (fun u w'=>rangePost (Fw ZE) 0 P (w.heap.size+1) Q {a with defers:={target:=.collected w.heap.size,args:= #[]}::a.defers} (.returned u) w') U I n X _ j1 _ _ _ JM h hg ⟨IE,hr.len,hr.own⟩ ⟨by exact ht.1,rf,[],X,rfl,by rw[HV],by rw[HV],by rw[HV],by rw[HV];exact hr.rel.size.trans hr.own.symm,by rw[HV];rfl,AZ⟩ Kk Iy (fun v s' An U' I' j' w' u h' CP CX D2 B4 CQ hvd Dx=> ?_);split at h'<;>first|exact h'.elim|skip
    rename_i yy hyy;have hy:s'.fs.lp s.heap.length=ZA yy:=ow.2 hyy;obtain⟨rf',o',e1,e2,e3,e4,e5,e6⟩:=Dx.rel.lpZ hy;cases e1;rw[hl]at e4;have Hq:∀(hb:yy.st≠.busy),uj (s'.heap.set s.heap.length .gone)=ZB->∃W4 j2,(Instr.endLoop (w.heap.size+1)).run P w'=.ok o'.pending W4/\At cx U' n X ⟨w0,w.heap.size::M0,ZB,ZE,If,L8⟩ ⟨s'.tmps,s'.heap.set s.heap.length .gone⟩ j2 {a with defers:={target:=.collected w.heap.size,args:= #[]}::a.defers} W4:=by intro hb hn;refine⟨_,j'.setz rf.l ZE,run_endLoop e4 (by rw[e5.st];cases hs:yy.st<;>simp_all [LS.st]),⟨?_,Dx.len,Dx.own⟩⟩;rw[show(St.mk s'.tmps (s'.heap.set s.heap.length .gone)).fs=s'.fs.endl s.heap.length from adj hyy,<-hl];exact Dx.rel.loopEnd hy (fun i yi h=>Xb hn i yi h) e3 _
    have out:∀sg:Option Sig,yy.pend=sg->yy.st≠.busy->uj (s'.heap.set s.heap.length .gone)=ZB->((match sg with|none=>k .normal ⟨s'.tmps,s'.heap.set s.heap.length .gone⟩ An|some .normal=>.stuck 207|some sg=>k sg ⟨s'.tmps,s'.heap.set s.heap.length .gone⟩ An:Tr).holds sp G U' I')->
     rangePost (Fw ZE) 0 P (w.heap.size+1) Q {a with defers:={target:=.collected w.heap.size,args:= #[]}::a.defers} (.returned u) w':=by
     intro sg hsg hb hn hh;obtain⟨W4,j2,Cl,HK⟩:=Hq hb hn;refine⟨_,_,Cl,?_⟩;rw[e5.pend,hsg];rcases sg with _|(_|id|_)
     .exact hQ _ .normal _ An U' I' j2 _ _ (fun e=>by cases e) hh CP CX D2 B4 CQ HK
     .exact hh.elim
     .exact wpIn_exit (hQ _ (.exit id) _ An U' I' j2 _ _ (fun e=>by cases e) hh CP CX D2 B4 CQ HK)
     .exact wpIn_ret (hQ _ .ret _ An U' I' j2 _ _ (fun e=>by cases e) hh CP CX D2 B4 CQ HK)
    obtain⟨st,pend⟩:=yy;cases st with
    |busy=>exact h'.elim
    |ready=>
      dsimp only at h';split at h'
      next hn=>exact out pend rfl (by simp) hn h'
      .exact h'.elim
    |done=>
      dsimp only at h';split at h'
      next hn=>exact out pend rfl (by simp) hn h'
      .exact h'.elim
   obtain⟨hcf,Q3⟩:=key;refine⟨w.heap.size+1,[{target:=.collected w.heap.size,args:= #[]}],(w.alloc (.deferred (ZA []))).alloc (.loop o),{target:=.fn (.func g) y.toArray,args:=x.toArray ++ #[.func (.yield (w.heap.size+1)) #[] #[]]},(w.alloc (.deferred (ZA []))).alloc (.loop o),g,(x++[Value.func (.yield (w.heap.size+1)) #[] #[]]++y).toArray,(w.alloc (.deferred (ZA []))).alloc (.loop o),?_,?_,fun _ _=>trivial,?_,TH,kX.2 (Q3.mono ?_)⟩
   .rw[ho];exact run_enterLoop_outer _ _ _ _ _
   .simp only[resolve,Au,Deferred.ofValue,ZI,Sem.run_pure,Result.andThen_ok];simp[Act.eval]
   .have e:((x.toArray ++ #[Value.func (.yield (w.heap.size+1)) #[] #[]])++y.toArray)=(x++[Value.func (.yield (w.heap.size+1)) #[] #[]]++y).toArray:=by simp
    simp only[invoke,e];exact hcf
   .rintro e w' ⟨u,rfl,hk⟩;exact hk
 |_=>intro W0 s kw k Q U I j a w ht ET h;exact h.elim
end
def TY(cx:Cx)(s:St):ResultVar->Option (Bool×List C)
 |.tmp t=>match HF s.n s.tmps (.tmp t)with
   |some (.one c)=>ZA (ZC,[c])
   |some (.agg cs)=>ZA (ZB,cs)
   |_=>ZE
 |.cell t ty=>match HF s.n s.tmps (.tmp t),ap ty cx.ty with
   |some (.one (.ptr b o)),ZA i=>if i.agg then(Mv s.heap b o i.size).map (ZB,·)else(Kt s.heap b o).map (ZC,[·])
   |_,_=>ZE
def Hk(cx:Cx)(s:St):List ResultVar->Option (List (Bool×List C))
 |[]=>ZA []
 |r::l=>match TY cx s r,Hk cx s l with
   |some x,ZA xs=>ZA (x::xs)
   |_,_=>ZE
def PQ(vk:List VK)(heap:List Ob):CK->C->E->Option E
 |.int k,.int k' e,t=>if bJ k k'&&e.rng vk k then ZA (.cons e t)else ZE
 |.bool,.bool e,t=>ZA (.j e t)
 |.fn g,.fn g',t=>if ZJ g g' then ZA (.cons (.p 0) t)else ZE
 |.nf,.nf,t=>ZA (.cons (.p 0) t)
 |.sl ks ty,.sl id,t=>match Ku heap id with
   |some r=>if r.own&&(r.kd.fits r.ks&&(di r.ks ks&&ZJ r.ty ty))then ZA (.N r.l t)else ZE
   |none=>ZE
 |.sl ks _,.nsl,t=>(match ks with |[]=>ZE|_::_=>ZA (.N .ln t))
 |_,_,_=>ZE
def oB(vk:List VK)(heap:List Ob):List CK->List C->E->Option E
 |[],[],t=>ZA t
 |k::ks,c::cs,t=>(oB vk heap ks cs t).bind (PQ vk heap k c)
 |_,_,_=>ZE
def aq8(heap:List Ob):CK->C->E->Option E
 |.int k,.int k' e,t=>if bJ k k' then ZA (.cons e t)else ZE
 |.bool,.bool e,t=>ZA (.j e t)
 |.fn g,.fn g',t=>if ZJ g g' then ZA (.cons (.p 0) t)else ZE
 |.nf,.nf,t=>ZA (.cons (.p 0) t)
 |.sl ks ty,.sl id,t=>match Ku heap id with
   |some r=>if r.own&&(r.kd.fits r.ks&&(di r.ks ks&&ZJ r.ty ty))then ZA (.N r.l t)else ZE
   |none=>ZE
 |.sl ks _,.nsl,t=>(match ks with |[]=>ZE|_::_=>ZA (.N .ln t))
 |_,_,_=>ZE
def alF{heap:List Ob}{t e:E}(hc:c.rng vk=ZB)(h:aq8 heap k c t=ZA e):PQ vk heap k c t=ZA e:=by
 unfold aq8 at h;split at h
 .rename_i k1 k2 x;split at h
  next h1=>obtain rfl:=ax h1;have h2:x.rng vk k1=ZB:=hc;simp[PQ,h1,h2];exact ZN h
  .exact Xo
 all_goals first|exact h|cases h
def T5(heap:List Ob):List CK->List C->E->Option E
 |[],[],t=>ZA t
 |k::ks,c::cs,t=>(T5 heap ks cs t).bind (aq8 heap k c)
 |_,_,_=>ZE
def xy{vk:List VK}{heap:List Ob}:∀{ks:List CK} {cs:List C} {t e:E},cs.all (C.rng vk)=ZB->T5 heap ks cs t=ZA e->oB vk heap ks cs t=ZA e
 |[],[],_,_,_,h=>h
 |k::ks,c::cs,t,e,hr,h=>by simp only[YX,ne]at hr;simp only[T5,de]at h;obtain⟨e1,h1,h2⟩:=h;simp only[oB,de];exact⟨e1,xy hr.2 h1,alF hr.1 h2⟩
def PP(vk:List VK)(heap:List Ob)(ks:List CK)(cs:List C)(t:E):Option E:=bif Zb vk cs vk 0 then T5 heap ks cs t else ZE
def sC{heap:List Ob}{t e:E}(h:PP vk heap ks cs t=ZA e):oB vk heap ks cs t=ZA e:=by
 unfold PP at h;cases hr:Zb vk cs vk 0 with
 |false=>rw[hr]at h;cases h
 |true=>rw[hr]at h;exact xy (rngs_ok cs vk 0 rfl hr) h
def qJ(vk:List VK)(heap:List Ob):List Sh->List (Bool×List C)->Option E
 |[],[]=>ZA .nil
 |.one k::ss,(ZC,[c])::l=>(qJ vk heap ss l).bind (PP vk heap [k] [c])
 |.agg ks::ss,(ZB,cs)::l=>(qJ vk heap ss l).bind (PP vk heap ks cs)
 |_,_=>ZE
def Ci:List CK->List C->List (Option Nat)
 |.sl _ _::ks,.sl id::cs=>ZA id::Ci ks cs
 |.sl _ _::ks,_::cs=>ZE::Ci ks cs
 |_::ks,_::cs=>Ci ks cs
 |_,_=>[]
def Gr:List Sh->List (Bool×List C)->List (Option Nat)
 |s::ss,(_,cs)::l=>Ci s.cks cs++Gr ss l
 |_,_=>[]
def ot:List (Option Nat)->Bool
 |[]=>ZB
 |none::l=>ot l
 |some a::l=>(l.all fun x=>match x with|some b=>!ZJ a b|none=>ZB)&&ot l
def HE(heap:List Ob)(id:Nat):Bool:=match Ku heap id with
 |some r=>r.kd.isEv
 |none=>ZC
def Dj(heap:List Ob)(j:J):Option Nat->SV
 |some id=>if HE heap id then(j.s id).getD nilSV else {(j.s id).getD nilSV with z:=[]}
 |none=>nilSV
def WT(heap:List Ob)(j:J)(id:Nat):(Dj heap j (ZA id)).v=((j.s id).getD nilSV).v:=by cases h:HE heap id<;>simp only[Dj,h]<;>rfl
def Qy:List (Bool×List C)->V
 |[(ZB,cs)]=>.agg cs
 |[(ZC,[c])]=>.one c
 |xs=>.tup xs
def qy(dep:Nat):List (TT×Nat)->Option (TT×Nat)
 |[]=>ZE
 |(t,n)::l=>if ZJ (fi l) dep then ZA (t,n)else qy dep l
def Uz(tm:TM):List Nat->List V->Option TM
 |[],[]=>ZA tm
 |p::ps,v::vs=>if Nat.blt p tm.n then Uz (tm.set p v) ps vs else ZE
 |_,_=>ZE
def Pb(cl:Ij)(cx:Cx)(fuel:Nat)(r:RfS)(id:Nat)(args:List V)(s:St)(kw:Kw)(k:V->St->Kw->Tr):Tr:=
 match s.heap[id]?,qy r.dep s.tmps.old with
 |some (.loop y),ZA (t,n)=>
   if ZJ n r.len&&(LS.same y.st .ready&&uj (s.heap.set id .gone))then
    match Uz ⟨t,n,(s.tmps.cur,s.tmps.n)::s.tmps.old⟩ r.ps.toList args with
    |some tm=>gK cl ZE cx fuel r.assign ⟨tm,s.heap⟩ kw fun sg s1 Cc=>match sg with
      |.normal=>(match s1.heap[id]? with
        |some (.loop y1)=>if LS.same y1.st .ready&&uj (s1.heap.set id .gone)then
         gK cl ZE cx fuel r.body ⟨s1.tmps,s1.heap.set id (.loop ⟨.busy,y1.pend⟩)⟩ Cc fun sg s2 Dq=>match s2.heap[id]? with
          |some (.loop _)=>if(ZJ s2.tmps.old.length (s.tmps.old.length+1)&&ZJ s2.tmps.pop.n s.n)&&uj (s2.heap.set id .gone)then(match sg with
           |.normal=>k (.one (.bool (.tt ZB))) ⟨s2.tmps.pop,s2.heap.set id (.loop ⟨.ready,ZE⟩)⟩ Dq
           |sg=>k (.one (.bool (.tt ZC))) ⟨s2.tmps.pop,s2.heap.set id (.loop ⟨.done,ZA sg⟩)⟩ Dq)else .stuck 210
          |_=>.stuck 211
          else .stuck 212
        |_=>.stuck 213)
      |_=>.stuck 214
    |none=>.stuck 215
   else .stuck 216
 |_,_=>.stuck 217
def zH(fuel:Nat):Nat->Cx->Option RfS->Ij
 |0,_,_,_,_,_,_,_=>.stuck 120
 |d+1,cx,ry,g,args,s,kw,k=>if Nat.blt g yB then(match ap g cx.fns with
   |none=>.stuck (200000+g)
   |some (fn,hints,cuts)=>match fn.body with
     |some c=>if fn.name== "runtime.NumGoroutine" then .stuck 121 else
       gK (zH fuel d {cx with hints:=hints,cuts:=cuts} ry) ZE {cx with hints:=hints,cuts:=cuts} fuel c ⟨s.tmps.push args (args.length+(fn.ntmps-args.length)),s.heap⟩ kw fun sg s' An=>match sg with
        |.exit _=>.stuck 80
        |_=>match Hk cx s' fn.results.toList with
          |some xs=>if ZJ s'.tmps.old.length (s.tmps.old.length+1)&&ZJ s'.tmps.pop.n s.n then k (Qy xs) ⟨s'.tmps.pop,s'.heap⟩ An else .stuck 129
          |none=>.stuck 81
     |none=>.stuck 122)
   else match ry with
    |some r=>Pb (zH fuel d {cx with hints:=r.hints,cuts:=r.cuts} (ZA r)) {cx with hints:=r.hints,cuts:=r.cuts} fuel r (g-yB) args s kw k
    |none=>.stuck 209
def Nr(cx:Cx)(fuel:Nat)(fn:Func)(args:List V)(heap:List Ob)(kw:Kw):Tr:=
 match fn.body with
 |some c=>gK (zH fuel 12 cx ZE) (ZA fun r=>zH fuel 12 cx (ZA r)) cx fuel c ⟨TM.push args (args.length+(fn.ntmps-args.length)) ⟨.u (.one .undef),0,[]⟩,heap⟩ kw fun sg s kw=>match sg with
   |.exit _=>.stuck 80
   |_=>match Hk cx s fn.results.toList with
     |some xs=>match qJ kw.vk s.heap cx.res xs with
       |some e=>if ot (Gr cx.res xs)then .u e else .stuck 83
       |none=>.stuck 84
     |none=>.stuck 81
 |none=>.stuck 82
section
variable {P:Program}{sp:Spec}{U:Env}{G:Env->E->Prop}{I:Nat->List Dt->Prop}{cx:Cx}{n:Nat}{X:List Value}{W0:Wb}
def wU:∀{l:List (Option Nat)},ot l=ZB->∀(i i':Nat) b,l[i]? =ZA (ZA b)->l[i']? =ZA (ZA b)->i=i'
 |[],_,i,i',b,h,_=>by simp at h
 |x::l,h,i,i',b,hi,Bg=>by
   have key:ot l=ZB/\∀b,x=ZA b->∀i:Nat,l[i]? ≠ZA (ZA b):=by
    cases x with
    |none=>exact⟨h,fun b hb=>by cases hb⟩
    |some a=>simp only[ot,ne]at h;refine⟨h.2,fun b hb i hi=> ?_⟩;cases hb;have:=CB.1 h.1 _ (fI hi);simp at this
   cases i with
   |zero=>
     simp at hi;cases i' with
     |zero=>rfl
     |succ i'=>exact ai (by simpa using Bg) (key.2 b hi i')
   |succ i=>
     cases i' with
     |zero=>simp at Bg;exact ai XS (key.2 b Bg i)
     |succ i'=>rw[wU key.1 i i' b XS (by simpa using Bg)]
def akx(h:Rel U n X W0 cx.fbs s.fs j a w){b:Nat}:∀(m o:Nat),E5 U j w (Kt s.heap) (eb b o m):=by intro m o p hp c hc;rw[<-zf]at hc;obtain⟨k',v,h1,h2,h3,_⟩:=oT h (b:=p.1) (o:=p.2) (c:=c) hc;exact⟨k',v,h1,h2,h3⟩
def kv{j:J}:∀{cs:List (Bool×List C)} {vs:List Value},cu U j cs=ZA vs->vs.length=cs.length
 |[],vs,h=>by cases h;rfl
 |c::cs,vs,h=>by
   simp only[cu]at h;cases hc:BJ U j c with
   |none=>rw[hc]at h;cases h
   |some v=>
     cases hl:cu U j cs with
     |none=>rw[hc,hl]at h;cases h
     |some l=>rw[hc,hl]at h;cases h;simp[kv hl]
def mz(tmps:Array Value):ResultVar->Sem Value
 |.tmp t=>pure (tmps.getD t undef)
 |.cell a t=>do loadVar t (<-asAddr (tmps.getD a undef))
def ac3(fn:Func)(tmps:Array Value):results fn tmps=(do let vs <-fn.results.mapM (mz tmps);pure (if h:vs.size=1 then vs[0]else .tuple vs)):=by unfold results;congr 2
def agQ(hT:∀t i,(t,i)∈cx.ty->TIok P t i)(h:At cx U n X W0 s j a w){r:ResultVar}{x:Bool×List C}(hx:TY cx s r=ZA x):
  ∃v,BJ U j x=ZA v/\(mz a.tmps r).run P w=.ok v w:=by
 have Ph:∀t u,HF s.n s.tmps (.tmp t)=ZA u->u.den U j=ZA (a.tmps.getD t undef):=fun t u hu=>h.ev (x:=.tmp t) hu;cases r with
 |tmp t=>
   simp only[TY]at hx;split at hx
   next c hc=>cases hx;exact⟨_,Ph t _ hc,by simp[mz]⟩
   next cs hc=>cases hx;exact⟨_,Ph t _ hc,by simp[mz]⟩
   .cases hx
 |cell t ty=>
   simp only[TY]at hx;split at hx
   .rename_i b o i hb hi;obtain⟨kk,hk,hp⟩:=mH (Ph t _ hb);have ht:=hT _ _ (af hi);split at hx
    next Bu=>rw[Ay]at hx;obtain⟨cs,CS,rfl⟩:=hx;obtain⟨vs,h1,h2⟩:=eu (P:=P) hk i.size o cs (agI _ _ _ _ CS) w (akx h.rel i.size o) ⟨kk,o,ZE⟩ 0 #[] (fun m=>by rw[bB];simp);refine⟨.agg vs.toArray,by simp[BJ,h1],?_⟩;simp[mz,hp,asAddr,ZI,loadVar,ht.agg,Bu,ht.size,loadCells,h2]
    next Bu=>rw[Ay]at hx;obtain⟨c,hc,rfl⟩:=hx;rw[<-zf]at hc;obtain⟨k',v,h1,h2,h3,_⟩:=oT h.rel (b:=b) (o:=o) (c:=c) hc;rw[hk]at h1;cases h1;have DB:i.agg=ZC:=Yy;refine⟨v,h2,?_⟩;simp[mz,hp,asAddr,ZI,loadVar,ht.agg,DB,load,Sem.run,h3]
   .cases hx
def agR(hT:∀t i,(t,i)∈cx.ty->TIok P t i){j:J}{a:Act}{w:World}{s:St}(h:At cx U n X W0 s j a w):∀(l:List ResultVar) (xs:List (Bool×List C)),Hk cx s l=ZA xs->
  ∃vs,cu U j xs=ZA vs/\vs.length=l.length/\(l.mapM (mz a.tmps)).run P w=.ok vs w
 |[],xs,hx=>by cases hx;exact⟨[],rfl,rfl,by simp⟩
 |r::l,xs,hx=>by
   simp only[Hk]at hx;split at hx
   next x ys h1 h2=>cases hx;obtain⟨v,h3,h4⟩:=agQ hT h h1;obtain⟨vs,h5,h6,h7⟩:=agR hT h l ys h2;refine⟨v::vs,by simp[cu,h3,h5],by simp[h6],?_⟩;rw[List.mapM_cons];simp only[ZI];rw[h4];simp only[Result.andThen_ok,h7];simp
   .cases hx
def rO(hT:∀t i,(t,i)∈cx.ty->TIok P t i)(h:At cx U n X W0 s j a w){xs:List (Bool×List C)}(hx:Hk cx s fn.results.toList=ZA xs):
  ∃vs,cu U j xs=ZA vs/\(results fn a.tmps).run P w=.ok (if h:vs.toArray.size=1 then vs.toArray[0]else .tuple vs.toArray) w:=by
 obtain⟨vs,h1,h2,h3⟩:=agR hT h _ xs hx;refine⟨vs,h1,?_⟩;rw[ac3,ZI,Array.mapM_eq_mapM_toList];rw[show(Functor.map List.toArray (List.mapM (mz a.tmps) fn.results.toList):Sem (Array Value))=(do let l <-List.mapM (mz a.tmps) fn.results.toList;pure l.toArray)from rfl];simp[ZI,h3]
def fk{α:Type}{ds:List α}{x:α}{r:List α}(h:ds.drop n=x::r):ds[n]? =ZA x/\ds.drop (n+1)=r:=by
 have h1:ds[n]? =ZA x:=by have:=congrArg (·[0]?) h;simpa using this
 refine⟨h1,?_⟩;have:=congrArg List.tail h;simpa using this
structure Res1(hp:List Ob)(U:Env)(j:J)(w0 w:World)(ks:List CK)(Ga:List (Option Nat))(vs:List Value)(e t:E):Prop where
 len:Ga.length=(ks.filter CK.isSl).length
 rng:gJ ks (e.D U)
 at':∀ds n,ds.drop n=e.D U->ds.drop (n+ks.length)=t.D U/\∀(U':Env) v0,eqs U' ds v0 n ks->
  (∀id (j':J),(∀(i:Nat) u,Ga[i]? =ZA u->j'.s (id+i)=ZA (Dj hp j u))->Af U' j' (aH v0 n id ks)=ZA vs)/\
  (∀(i:Nat) u r,Ga[i]? =ZA u->(bE v0 n ks)[i]? =ZA r->RowOk U' w0.heap.size w (Dj hp j u) r)
def arc{hp:List Ob}{U:Env}{t:E}:Res1 hp U j w0 w [] [] [] t t:=⟨rfl,trivial,fun ds n h=>⟨by simpa using h,fun U' v0 he=>⟨fun id j' h=>rfl,fun i u r h=>by simp at h⟩⟩⟩
def QK{x:Int}(h:ds[n]? =ZA (.z x)):dI ds n=x:=by simp[dI,h]
def UF{x:LL}(h:ds[n]? =ZA (.l x)):dL ds n=x:=by simp[dL,h]
def oE(b:Bool):(AD b==1)=b:=by cases b<;>rfl
def alE(hv:Vk U vk)(h:Rel U n X W0 cx.fbs s.fs j a w){t e:E}(he:PQ vk s.heap k c t=ZA e)(hd:c.den U j=ZA v){vs:List Value}{t0:E}(hr:Res1 s.heap U j W0.w w ks Ga vs t t0)(hids:Ga=Ci ks cs):
  Res1 s.heap U j W0.w w (k::ks) (Ci (k::ks) (c::cs)) (v::vs) e t0:=by
 subst hids;have EI:∀m:Nat,m+1+ks.length=m+(k::ks).length:=fun m=>by simp;omega
 unfold PQ at he;split at he
 .rename_i k k' x;split at he
  next hk=>cases he;simp only[ne]at hk;have:=ax hk.1;subst this;cases hd;refine⟨hr.len,⟨E.rng_ok hv x hk.2,hr.rng⟩,fun ds n' h1=> ?_⟩;obtain⟨h2,h3⟩:=fk h1;obtain⟨h4,h5⟩:=hr.at' ds (n'+1) h3;refine⟨by rw[<-EI];exact h4,fun U' v0 DM=> ?_⟩;obtain⟨h6,h7⟩:=h5 U' v0 DM.2;refine⟨fun id j' hj=> ?_,h7⟩;simp only[aH,Af,C.den,E.I,h6 id j' hj,DM.1,QK h2]
  .cases he
 .rename_i x;cases he;cases hd;refine⟨hr.len,hr.rng,fun ds n' h1=> ?_⟩;obtain⟨h2,h3⟩:=fk h1;obtain⟨h4,h5⟩:=hr.at' ds (n'+1) h3;refine⟨by rw[<-EI];exact h4,fun U' v0 DM=> ?_⟩;obtain⟨h6,h7⟩:=h5 U' v0 DM.2;refine⟨fun id j' hj=> ?_,h7⟩;have h8:U'.b (v0+n')=x.B U:=by rw[DM.1];simp only[dB,QK h2,oE]
  simp only[aH,Af,C.den,E.B,h6 id j' hj,h8]
 .rename_i g g';split at he
  next hg=>cases he;have:=Ak hg;subst this;cases hd;refine⟨hr.len,hr.rng,fun ds n' h1=> ?_⟩;obtain⟨h2,h3⟩:=fk h1;obtain⟨h4,h5⟩:=hr.at' ds (n'+1) h3;refine⟨by rw[<-EI];exact h4,fun U' v0 DM=> ?_⟩;obtain⟨h6,h7⟩:=h5 U' v0 DM;refine⟨fun id j' hj=> ?_,h7⟩;simp only[aH,Af,C.den,h6 id j' hj]
  .cases he
 .cases he;cases hd;refine⟨hr.len,hr.rng,fun ds n' h1=> ?_⟩;obtain⟨h2,h3⟩:=fk h1;obtain⟨h4,h5⟩:=hr.at' ds (n'+1) h3;refine⟨by rw[<-EI];exact h4,fun U' v0 DM=> ?_⟩;obtain⟨h6,h7⟩:=h5 U' v0 DM;refine⟨fun id j' hj=> ?_,h7⟩;simp only[aH,Af,C.den,h6 id j' hj]
 .rename_i ks0 ty JR;split at he
  .rename_i r EU;split at he
   .rename_i hq;cases he;simp only[ne]at hq;obtain⟨ho,Gk,hk,ht⟩:=hq;have RG:=EU;rw[<-nE]at EU;obtain⟨sv,h1,h2⟩:=h.row JR r (iQ EU);simp only[C.den,h1,YR,bo]at hd;subst hd;have e1:=cO hk;have e2:=Ak ht;have e3:=RK.fits_eq Gk;subst e1 e2;have Kq:(Dj s.heap j (ZA JR)).v=sv.v:=by rw[WT,h1];rfl
    refine⟨by simp[Ci,List.filter,CK.isSl,hr.len],⟨h2.rows,hr.rng⟩,fun ds n' h3=> ?_⟩;obtain⟨h4,h5⟩:=fk h3;obtain⟨h6,h7⟩:=hr.at' ds (n'+1) h5;refine⟨by rw[<-EI];exact h6,fun U' v0 DM=> ?_⟩;obtain⟨h8,h9⟩:=h7 U' v0 DM.2;refine⟨fun id j' hj=> ?_,fun i u q hi Gz=> ?_⟩
    .have JH:=hj 0 (ZA JR) rfl;rw[ZR]at JH;have HH:=h8 (id+1) j' (fun i u hi=>by
      have:=hj (i+1) u Yi;rwa [show id+(i+1)=id+1+i by omega]at this)
     simp only[aH,Af,C.den,JH,YR,HH,Kq]
    .cases i with
     |zero=>
       simp only[Ci,cD,bo]at hi;simp only[bE,cD,bo]at Gz;subst hi Gz;have hR:(E.g (v0+n')).R U'=r.l.R U:=by simp only[E.R];rw[DM.1,UF h4]
       rcases cH r.ks with⟨_,g2⟩|⟨_,g2⟩
       .have hea:HE s.heap JR=ZB:=by simp[HE,RG,e3,g2,RK.isEv]
        have Au:Dj s.heap j (ZA JR)=sv:=by simp[Dj,hea,h1]
        rw[Au];exact RowOk.swap (q:=r) rfl rfl ho.symm hR (by rw[e3,g2];trivial) h2
       .have hea:HE s.heap JR=ZC:=by simp[HE,RG,e3,g2,RK.isEv]
        have Au:Dj s.heap j (ZA JR)={sv with z:=[]}:=by simp[Dj,hea,h1]
        rw[Au];have h2:=h2.1 (e3.trans g2);refine RowOk.mk_own g2 (by rw[hR];exact h2.n) (by rw[hR];exact h2.rows) h2.pos ?_;rw[hR];exact h2.own ho
     |succ i=>exact h9 i u q Yi (by simpa[bE]using Gz)
   .cases he
  .cases he
 .rename_i ks0 ty;split at he
  .cases he
  .rename_i k0 ks1;cases he;cases hd;have AS:RowsIn (k0::ks1) []:=⟨fun r hr=>(by cases hr),by simp⟩
   refine⟨by simp[Ci,List.filter,CK.isSl,hr.len],⟨AS,hr.rng⟩,fun ds n' h3=> ?_⟩;obtain⟨h4,h5⟩:=fk h3;obtain⟨h6,h7⟩:=hr.at' ds (n'+1) h5;refine⟨by rw[<-EI];exact h6,fun U' v0 DM=> ?_⟩;obtain⟨h8,h9⟩:=h7 U' v0 DM.2;refine⟨fun id j' hj=> ?_,fun i u q hi Gz=> ?_⟩
   .have JH:=hj 0 ZE rfl;rw[ZR]at JH;have HH:=h8 (id+1) j' (fun i u hi=>by
     have:=hj (i+1) u Yi;rwa [show id+(i+1)=id+1+i by omega]at this)
    simp only[aH,Af,C.den,JH,YR,HH];rfl
   .cases i with
    |zero=>
      simp only[Ci,cD,bo]at hi;simp only[bE,cD,bo]at Gz;subst hi Gz;have hR:(E.g (v0+n')).R U'=[]:=by simp only[E.R];rw[DM.1,UF h4];rfl
      rcases cH (k0::ks1)with⟨g1,g2⟩|⟨_,g2⟩
      .exact EvOk.row ⟨g1,by rw[hR];rfl,by rw[hR];exact AS,fun k hk=>ai hk lL,fun _ p hp=>Ym,[],by rw[hR];rfl,fun _=>by rw[hR];exact World.ownsRow_nil _ _ _ _,by rw[hR];exact RdRow.nil,fun i row x hr=>by rw[hR]at hr;simp at hr⟩ g2
      .exact RowOk.mk_own g2 (by rw[hR];rfl) (by rw[hR];exact AS) (by simp) (by rw[hR];exact World.ownsRow_nil _ _ _ _)
    |succ i=>exact h9 i u q Yi (by simpa[bE]using Gz)
 .cases he
def xx{vk:List VK}(hv:Vk U vk){s:St}{j:J}{a:Act}{w:World}(h:Rel U n X W0 cx.fbs s.fs j a w):∀{ks:List CK} {cs:List C} {t e:E},oB vk s.heap ks cs t=ZA e->∀{vs:List Value},Af U j cs=ZA vs->Res1 s.heap U j W0.w w ks (Ci ks cs) vs e t
 |[],[],t,e,he,vs,hd=>by cases he;cases hd;exact arc
 |k::ks,c::cs,t,e,he,vs,hd=>by
   simp only[oB,de]at he;obtain⟨e',h1,h2⟩:=he;simp only[Af]at hd;cases hc:c.den U j with
   |none=>rw[hc]at hd;cases hd
   |some v=>
     cases hl:Af U j cs with
     |none=>rw[hc,hl]at hd;cases hd
     |some l=>rw[hc,hl]at hd;cases hd;exact alE hv h h2 hc (xx hv h h1 hl) rfl
def acd(hv:Vk U vk)(h:Rel U n X W0 cx.fbs s.fs j a w){t e:E}(he:PP vk s.heap ks cs t=ZA e){vs:List Value}(hd:Af U j cs=ZA vs):Res1 s.heap U j W0.w w ks (Ci ks cs) vs e t:=xx hv h (sC he) hd
structure Res2(hp:List Ob)(U:Env)(j:J)(w0 w:World)(ss:List Sh)(Ga:List (Option Nat))(vs:List Value)(e:E):Prop where
 len:Ga.length=((ss.flatMap (·.cks)).filter CK.isSl).length
 rng:gJ (ss.flatMap (·.cks)) (e.D U)
 at':∀ds n,ds.drop n=e.D U->∀(U':Env) v0,eqs U' ds v0 n (ss.flatMap (·.cks))->
  (∀id (j':J),(∀(i:Nat) u,Ga[i]? =ZA u->j'.s (id+i)=ZA (Dj hp j u))->cu U' j' (bM v0 n id ss)=ZA vs)/\
  (∀(i:Nat) u r,Ga[i]? =ZA u->(bE v0 n (ss.flatMap (·.cks)))[i]? =ZA r->RowOk U' w0.heap.size w (Dj hp j u) r)
def iX{U:Env}{ds:List Dt}{v0:Nat}:∀(ks ks':List CK) (n:Nat),eqs U ds v0 n (ks++ks')->eqs U ds v0 n ks/\eqs U ds v0 (n+ks.length) ks'
 |[],ks',n,h=>⟨trivial,h⟩
 |k::ks,ks',n,h=>by
   have EI:n+1+ks.length=n+(k::ks).length:=XD;cases k
   case int=>exact⟨⟨h.1,(iX ks ks' (n+1) h.2).1⟩,by rw[<-EI];exact(iX ks ks' (n+1) h.2).2⟩
   case bool=>exact⟨⟨h.1,(iX ks ks' (n+1) h.2).1⟩,by rw[<-EI];exact(iX ks ks' (n+1) h.2).2⟩
   case sl=>exact⟨⟨h.1,(iX ks ks' (n+1) h.2).1⟩,by rw[<-EI];exact(iX ks ks' (n+1) h.2).2⟩
   all_goals exact⟨(iX ks ks' (n+1) h).1,by rw[<-EI];exact(iX ks ks' (n+1) h).2⟩
def mA:∀{ks ks':List CK} {ds:List Dt},gJ ks ds->gJ ks' (ds.drop ks.length)->gJ (ks++ks') ds
 |[],ks',ds,_,h=>by simpa using h
 |k::ks,ks',ds,h,h'=>by
   cases ds with
   |nil=>cases k<;>exact h.elim
   |cons d ds=>
     cases k
     case int=>cases d<;>first|exact⟨h.1,mA h.2 h'⟩|exact h.elim
     case sl=>cases d<;>first|exact⟨h.1,mA h.2 h'⟩|exact h.elim
     all_goals exact mA (ks:=ks) (ks':=ks') (ds:=ds) h h'
def qd{v0:Nat}:∀(ks ks':List CK) (n:Nat),bE v0 n (ks++ks')=bE v0 n ks++bE v0 (n+ks.length) ks'
 |[],ks',n=>rfl
 |k::ks,ks',n=>by have EI:n+1+ks.length=n+(k::ks).length:=XD;cases k<;>simp only[List.cons_append,bE,qd ks ks' (n+1),EI]
def iR{v0:Nat}:∀(ks:List CK) (n:Nat),(bE v0 n ks).length=(ks.filter CK.isSl).length
 |[],n=>rfl
 |k::ks,n=>by cases k<;>simp[bE,List.filter,CK.isSl,iR ks (n+1)]
def Res2.cons{hp:List Ob}{k:Sh}{RT:List (Option Nat)}{us vs:List Value}{e t:E}(h1:Res1 hp U j w0 w k.cks Ga us e t)(h2:Res2 hp U j w0 w ss RT vs t)(hq:∀v0 n id,∃p,bM v0 n id (k::ss)=p::bM v0 (n+k.cks.length) (id+(k.cks.filter CK.isSl).length) ss/\∀(U':Env) (j':J),Af U' j' (aH v0 n id k.cks)=ZA us->BJ U' j' p=ZA v):Res2 hp U j w0 w (k::ss) (Ga++RT) (v::vs) e:=by
 refine⟨by rw[ZQ,List.filter_append,eo,eo,h1.len,h2.len],?_,fun ds n' hd U' v0 he=> ?_⟩
 .rw[ZQ];have h3:=(h1.at' (e.D U) 0 rfl).1;rw[bP]at h3;exact mA h1.rng (by rw[h3];exact h2.rng)
 .rw[ZQ]at he;obtain⟨e1,e2⟩:=iX _ _ _ he;obtain⟨d1,d2⟩:=h1.at' ds n' hd;obtain⟨a1,a2⟩:=d2 U' v0 e1;obtain⟨b1,b2⟩:=h2.at' ds (n'+k.cks.length) d1 U' v0 e2;refine⟨fun id j' hj=> ?_,fun i u r hi hr=> ?_⟩
  .obtain⟨p,p1,p2⟩:=hq v0 n' id;rw[p1];have q1:=p2 U' j' (a1 id j' (fun i u hi=>hj i u (by
    rw[A9 (cZ.1 hi).1];exact hi)))
   have q2:=b1 (id+(k.cks.filter CK.isSl).length) j' (fun i u hi=>by
    have:=hj (Ga.length+i) u (by rw[Bo Fn,Nat.add_sub_cancel_left];exact hi);rw[h1.len]at this;rwa [ZU])
   simp only[cu,q1,q2]
  .rw[ZQ,qd]at hr;rcases bC i Ga.length with As|DC
   .rw[A9 As]at hi;rw[A9 (by rw[iR,<-h1.len];exact As)]at hr;exact a2 i u r hi hr
   .rw[Bo DC]at hi;rw[Bo (by rw[iR,<-h1.len];exact DC),iR,<-h1.len]at hr;exact b2 _ u r hi hr
def uH{vk:List VK}(hv:Vk U vk){s:St}{j:J}{a:Act}{w:World}(h:Rel U n X W0 cx.fbs s.fs j a w):∀{ss:List Sh} {xs:List (Bool×List C)} {e:E},qJ vk s.heap ss xs=ZA e->∀{vs:List Value},cu U j xs=ZA vs->Res2 s.heap U j W0.w w ss (Gr ss xs) vs e
 |ss,xs,e,he,vs,hd=>by
   unfold qJ at he;split at he
   .cases he;cases hd;exact⟨rfl,trivial,fun ds n h U' v0 he=>⟨fun id j' h=>rfl,fun i u r h=>by simp[Gr]at h⟩⟩
   .rename_i k ss c l;rw[de]at he;obtain⟨e',h1,h2⟩:=he;simp only[cu]at hd;cases hc:BJ U j (ZC,[c])with
    |none=>rw[hc]at hd;cases hd
    |some v=>
      cases hl:cu U j l with
      |none=>rw[hc,hl]at hd;cases hd
      |some us=>
        rw[hc,hl]at hd;cases hd;have Gg:c.den U j=ZA v:=hc;refine Res2.cons (k:=.one k) (acd hv h h2 (vs:=[v]) (by simp[Af,Gg])) (uH hv h h1 hl) (fun v0 n id=> ?_);refine⟨(ZC,aH v0 n id [k]),?_,fun U' j' hh=> ?_⟩
        .simp only[bM,Sh.cks,List.length_singleton];congr 2;cases k<;>simp[List.filter,CK.isSl]
        .simp only[Sh.cks]at hh;have:∃c',aH v0 n id [k]=[c']:=by cases k<;>exact⟨_,rfl⟩
         obtain⟨c',hc2⟩:=this;rw[hc2]at hh ⊢;simp only[Af]at hh;simp only[BJ];cases hx:c'.den U' j' with
         |none=>rw[hx]at hh;cases hh
         |some y=>rw[hx]at hh;simpa using hh
   .rename_i ks ss cs l;rw[de]at he;obtain⟨e',h1,h2⟩:=he;simp only[cu]at hd;cases hc:BJ U j (ZB,cs)with
    |none=>rw[hc]at hd;cases hd
    |some v=>
      cases hl:cu U j l with
      |none=>rw[hc,hl]at hd;cases hd
      |some us=>rw[hc,hl]at hd;cases hd;simp only[BJ,Ay]at hc;obtain⟨ws,hws,rfl⟩:=hc;refine Res2.cons (k:=.agg ks) (acd hv h h2 hws) (uH hv h h1 hl) (fun v0 n id=> ?_);exact⟨(ZB,aH v0 n id ks),rfl,fun U' j' hh=>by simp[BJ,Sh.cks]at hh ⊢;exact hh⟩
   .cases he
def agP{U:Env}{nid:Nat}{vs:List Value}(ht:ZJ res.length 1 = !tup)(hl:vs.length=res.length)(h:cu U j (bM v0 0 nid res)=ZA vs):
  (gi res tup v0 nid).den U j=ZA (if h:vs.toArray.size=1 then vs.toArray[0]else .tuple vs.toArray):=by
 cases tup with
 |true=>
   have BM:¬vs.length=1:=fun e=>by rw[hl]at e;simp[e]at ht
   simp[gi,V.den,h,BM]
 |false=>
   have h1:res.length=1:=Ak (by simpa using ht)
   match res,vs,h1,hl,h with
   |[r],[v],_,_,h=>
     unfold gi;rw[aa (by simp)];cases r with
     |one k=>
       have:∃c',aH v0 0 nid [k]=[c']:=by cases k<;>exact⟨_,rfl⟩
       obtain⟨c',hc⟩:=this;simp only[bM,hc,cu,BJ]at h ⊢;cases hx:c'.den U j with
       |none=>rw[hx]at h;cases h
       |some y=>rw[hx]at h;cases h;simpa[V.den]using hx
     |agg ks=>
       simp only[bM,cu,BJ]at h ⊢;cases hx:Af U j (aH v0 0 nid ks)with
       |none=>rw[hx]at h;cases h
       |some y=>rw[hx]at h;cases h;simp[V.den,hx]
     |ptr ks=>simp only[bM,cu,BJ,Af,C.den]at h ⊢;cases h;simp[V.den,Af,C.den]
def Res2.ret{hp:List Ob}{vs:List Value}{e:E}(h:Res2 hp U j w0 w ss Ga vs e)(ht:ZJ ss.length 1 = !tup)(hl:vs.length=ss.length)(hx:Ext w0 w)(hd:∀(i i':Nat) a b k,Ga[i]? =ZA a->Ga[i']? =ZA b->(Dj hp j a).v.ownBlock=ZA k->(Dj hp j b).v.ownBlock=ZA k->i=i')(hz:∀a∈Ga,NewZ w0 w (Ga.map (Dj hp j)) (Dj hp j a)):RetOk ss tup w0 w (e.D U) (if h:vs.toArray.size=1 then vs.toArray[0]else .tuple vs.toArray):=by
 have MI:=fun U' v0 he=>h.at' (e.D U) 0 rfl U' v0 he;refine⟨hx,h.rng,Ga.map (Dj hp j),by rw[List.length_map,h.len],fun U' v0 nid j' he hs=> ?_,fun U' v0 he i u r hu hr=> ?_,fun i i' u u' k hu JQ hk B2=> ?_,fun u hu=> ?_⟩
 .exact agP ht hl ((MI U' v0 he).1 nid j' (fun i u hi=>hs i _ (by rw[js,hi];rfl)))
 .rw[js,Ay]at hu;obtain⟨a,ha,rfl⟩:=hu;exact(MI U' v0 he).2 i a r ha hr
 .rw[js,Ay]at hu JQ;obtain⟨a,ha,rfl⟩:=hu;obtain⟨b,hb,rfl⟩:=JQ;exact hd i i' a b k ha hb hk B2
 .obtain⟨a,ha,rfl⟩:=List.mem_map.1 hu;exact hz a ha
def UM(w:World)(k:Nat):Option Obj:=match w.heap[k]? with
 |some o=>if Cg o then ZA o else ZE
 |none=>ZE
def uM{k:Nat}{o:Obj}:UM w k=ZA o↔w.heap[k]? =ZA o/\Cg o=ZB:=by
 unfold UM;cases h:w.heap[k]? with
 |none=>simp
 |some o'=>
   cases hc:Cg o' with
   |true=>simp[hc];intro e;rw[<-e];exact hc
   |false=>simp[hc];intro e;rw[<-e];exact hc
structure Start(cx:Cx)(U:Env)(heap:List Ob)(j:J)(w:World):Prop where
 row:∀(b:Nat) ob,heap[b]? =ZA ob->∃r s,ob=.row r/\r.own=ZC/\j.s b=ZA s/\RowOk U w.heap.size w s r
 nos:∀b,heap.length<=b->j.s b=ZE
 nob:∀b,j.b b=ZE
 gh:j.g=⟨fun _=>ZE,UM w⟩
 zz:∀b s,j.s b=ZA s->∀p∈s.z,w.heap[p.1]? =ZA p.2/\Cg p.2=ZB
 fb:∀b cs,cx.fbs b=ZA cs->∃k vs,j.f b=ZA k/\k<w.heap.size/\Af U j cs=ZA vs/\∀(o:Nat) v,vs[o]? =ZA v->jM cs o=ZB->w.cell? ⟨k,o,ZE⟩=ZA v
def wR{vk:List VK}{heap:List Ob}:∀{ks:List CK} {cs:List C} {t e:E},oB vk heap ks cs t=ZA e->∀(i id:Nat),(Ci ks cs)[i]? =ZA (ZA id)->∃r,Ku heap id=ZA r/\r.own=ZB
 |[],[],t,e,_,i,id,hi=>by simp[Ci]at hi
 |k::ks,c::cs,t,e,he,i,id,hi=>by
   simp only[oB,de]at he;obtain⟨e',h1,h2⟩:=he;have ih:=wR h1;unfold PQ at h2;split at h2
   .exact ih i id hi
   .exact ih i id hi
   .exact ih i id hi
   .exact ih i id hi
   .rename_i JR;split at h2
    .rename_i r hr;split at h2
     .rename_i hq;simp only[ne]at hq;cases i with
      |zero=>simp only[Ci,cD,bo]at hi;subst hi;exact⟨r,hr,hq.1⟩
      |succ i=>exact ih i id Yi
     .exact XU
    .exact XU
   .cases i with
    |zero=>simp[Ci]at hi
    |succ i=>exact ih i id Yi
   .exact XU
def abB{heap:List Ob}{t e:E}(he:PP vk heap ks cs t=ZA e):∀(i id:Nat),(Ci ks cs)[i]? =ZA (ZA id)->∃r,Ku heap id=ZA r/\r.own=ZB:=wR (sC he)
def kP{vk:List VK}{heap:List Ob}:∀{ss:List Sh} {xs:List (Bool×List C)} {e:E},qJ vk heap ss xs=ZA e->∀(i id:Nat),(Gr ss xs)[i]? =ZA (ZA id)->∃r,Ku heap id=ZA r/\r.own=ZB
 |ss,xs,e,he,i,id,hi=>by
   unfold qJ at he;split at he
   .simp[Gr]at hi
   .rename_i k ss c l;rw[de]at he;obtain⟨e',h1,h2⟩:=he;have Bg:(Ci [k] [c]++Gr ss l)[i]? =ZA (ZA id):=hi;rcases bC i (Ci [k] [c]).length with As|DC
    .rw[A9 As]at Bg;exact abB h2 i id Bg
    .rw[Bo DC]at Bg;exact kP h1 _ id Bg
   .rename_i ks ss cs l;rw[de]at he;obtain⟨e',h1,h2⟩:=he;have Bg:(Ci ks cs++Gr ss l)[i]? =ZA (ZA id):=hi;rcases bC i (Ci ks cs).length with As|DC
    .rw[A9 As]at Bg;exact abB h2 i id Bg
    .rw[Bo DC]at Bg;exact kP h1 _ id Bg
   .cases he
def qI{vk:List VK}{heap:List Ob}:∀{ss:List Sh} {xs:List (Bool×List C)} {e:E},qJ vk heap ss xs=ZA e->xs.length=ss.length
 |ss,xs,e,he=>by
   unfold qJ at he;split at he
   .rfl
   .rw[de]at he;obtain⟨e',h1,_⟩:=he;simp[qI h1]
   .rw[de]at he;obtain⟨e',h1,_⟩:=he;simp[qI h1]
   .cases he
def dM{f:FuncId}(hf:P.funcs[f]? =ZA fn)(HS:(fn.name== "runtime.NumGoroutine")=ZC)(hb:fn.body.isNone=ZC)(args:Array Value)(w:World):(callFunc f args).run P w=.ok (.enter f args) w:=by
 have h1:fn.name≠ "runtime.NumGoroutine" :=by simpa using HS
 cases hc:fn.body with
 |none=>rw[hc]at hb;cases hb
 |some c=>simp[callFunc,hf,h1,hc,program,ZI,Sem.run]
def aee{xs:List (Bool×List C)}{vs:List Value}(h:cu U j xs=ZA vs):(Qy xs).den U j=ZA (if h:vs.toArray.size=1 then vs.toArray[0]else .tuple vs.toArray):=by
 have tup:xs.length≠1->(V.tup xs).den U j=ZA (if h:vs.toArray.size=1 then vs.toArray[0]else .tuple vs.toArray):=fun hn=>by have hl:=kv h;rw[dif_neg (by simpa[hl]using hn)];simp[V.den,h]
 match xs,h with
 |[],h=>exact tup (by simp)
 |[(ZB,cs)],h=>
   simp only[cu]at h;cases hc:BJ U j (ZB,cs)with
   |none=>rw[hc]at h;cases h
   |some v=>rw[hc]at h;cases h;exact hc
 |[(ZC,[c])],h=>
   simp only[cu]at h;cases hc:BJ U j (ZC,[c])with
   |none=>rw[hc]at h;cases h
   |some v=>rw[hc]at h;cases h;exact hc
 |[(ZC,[])],h=>simp[cu,BJ]at h
 |[(ZC,_::_::_)],h=>simp[cu,BJ]at h
 |x::y::l,h=>
   have e:Qy (x::y::l)=.tup (x::y::l):=by rcases x with⟨_|_,_|⟨_,_|⟨_,_⟩⟩⟩<;>rfl
   rw[e];exact tup (by simp)
def amH{U':Env}{n2:Nat}{s':St}{j':J}{a':Act}(hr:At cx U n X W0 s j a w)(AV:At cx U' n2 (a.tmps.toList++X) {W0 with top:=ZC} s' j' a' w')(Ea:(ZJ s'.tmps.old.length (s.tmps.old.length+1)&&ZJ s'.tmps.pop.n s.n)=ZB):At cx U' n X W0 ⟨s'.tmps.pop,s'.heap⟩ j' a w':=by
 rw[ne]at Ea;have Fa:=hr.rel.size;have K3:s'.tmps.old≠[]:=fun e=>by have:=Ak Ea.1;rw[e]at this;simp at this
 have RL:s'.tmps.n=n2:=AV.own;have Sr:∀i:Nat,(St.mk s'.tmps.pop s'.heap).fs.tmp i=s'.fs.tmp (n2+i):=fun i=>by simp only[St.fs,Ax];rw[TM.pop_get K3,RL]
 refine⟨⟨hr.rel.defers,Fa,fun t ht=> ?_,fun i v hi=> ?_,AV.rel.box,AV.rel.nob,AV.rel.inj,AV.rel.row,AV.rel.nor,AV.rel.sep,AV.rel.rsep,AV.rel.fb,AV.rel.ext,⟨AV.rel.gs.at',AV.rel.gs.box,AV.rel.gs.row,AV.rel.gs.md,AV.rel.gs.nd,AV.rel.gs.lp,AV.rel.gs.nol,AV.rel.gs.ev,AV.rel.gs.tb⟩⟩,?_,(Ak Ea.2).trans hr.own⟩
 .have P8:t<a.tmps.size:=by rw[Fa];exact ht
  refine⟨a.tmps[t],Array.getElem?_eq_getElem P8,?_⟩;rw[Sr];exact AV.rel.sav t _ (by rw[A9 (by simpa using P8),lE];exact Array.getElem?_eq_getElem P8)
 .rw[Sr];have:=AV.rel.sav (n+i) v (by rw[Bo (by simp[Fa])];simpa[Fa]using hi);exact this
 .have h3:=AV.len;simp only[eo,Array.length_toList,Fa]at h3;have h4:=TM.pop_length K3;show s'.tmps.pop.length=_;omega
def abo(hr:At cx U n X W0 s j a w){F:Fz}{m:Nat}(MI:∀i:Nat,F.tmp (m+i)=s.fs.tmp i)(i:Nat)(v:Value)(hi:(a.tmps.toList++X)[i]? =ZA v):F.tmp (m+i)=.top\/(F.tmp (m+i)).den U j=ZA v:=by
 have Fa:=hr.rel.size;rw[MI];rcases bC i n with h1|h1
 .rw[A9 (by simpa[Fa]using h1)]at hi;obtain⟨v',h2,h3⟩:=hr.rel.tmp i h1;rw[lE,h2]at hi;cases hi;exact h3
 .rw[Bo (by simpa[Fa]using h1)]at hi;have:=hr.rel.sav _ v hi;simp only[Array.length_toList,Fa]at this;rw[show n+(i-n)=i by omega]at this;exact this
def sr{dep:Nat}{t:TT}{m:Nat}:∀{l:List (TT×Nat)},qy dep l=ZA (t,m)->∃off,off+(m+dep)=fi l/\∀i,i<m->jf l (off+i)=ZA (t.get i)
 |[],h=>by cases h
 |(t0,n0)::l,h=>by
   simp only[qy]at h;split at h
   next hb=>cases h;exact⟨0,by rw[<-Ak hb];simp[fi],fun i hi=>by rw[bP];simp[jf,hi]⟩
   .obtain⟨off,h1,h2⟩:=sr h;refine⟨n0+off,by simp only[fi];omega,fun i hi=> ?_⟩;simp only[jf];rw[aa Fn,show n0+off+i-n0=off+i by omega];exact h2 i hi
def aky{r:RfS}{rf:Rf}{t:TT}{m:Nat}(hr:At cx U n X W0 s j a w){A B:List Value}(hX:X=A++(rf.tmps.toList++B))(hB:B.length=r.dep)(BR:rf.tmps.size=m)(hf:qy r.dep s.tmps.old=ZA (t,m)):
  At cx U m (a.tmps.toList++X) {W0 with top:=ZC} ⟨⟨t,m,(s.tmps.cur,s.tmps.n)::s.tmps.old⟩,s.heap⟩ j {tmps:=rf.tmps,defers:=[]} w:=by
 obtain⟨off,h1,h2⟩:=sr hf;have hn:s.tmps.n=n:=hr.own;have AZ:X.length=fi s.tmps.old:=by have h3:=hr.len;unfold TM.length at h3;omega
 have hA:A.length=off:=by have:=congrArg List.length hX;simp only[eo,Array.length_toList]at this;omega
 refine⟨⟨rfl,BR,fun i hi=> ?_,abo hr (fun i=> ?_),hr.rel.box,hr.rel.nob,hr.rel.inj,hr.rel.row,hr.rel.nor,hr.rel.sep,hr.rel.rsep,hr.rel.fb,hr.rel.ext,⟨hr.rel.gs.at',hr.rel.gs.box,hr.rel.gs.row,hr.rel.gs.md,hr.rel.gs.nd,hr.rel.gs.lp,hr.rel.gs.nol,hr.rel.gs.ev,hr.rel.gs.tb⟩⟩,?_,rfl⟩
 .have Gx:i<rf.tmps.size:=by rw[BR];exact hi
  refine⟨rf.tmps[i],Array.getElem?_eq_getElem Gx,?_⟩;have h3:=hr.rel.sav (off+i) rf.tmps[i] (by
   have e:rf.tmps.toList.length=m:=by simp[BR]
   rw[hX,Bo Fn,A9 Fn];rw[show off+i-A.length=i by omega,lE];exact Array.getElem?_eq_getElem Gx)
  have h4:s.fs.tmp (n+(off+i))=t.get i:=by simp only[St.fs,Ax,TM.get?];rw[aa Fn,show n+(off+i)-s.tmps.n=off+i by omega,h2 i hi];rfl
  have h5:(St.mk ⟨t,m,(s.tmps.cur,s.tmps.n)::s.tmps.old⟩ s.heap).fs.tmp i=t.get i:=by simp only[St.fs,Ax,TM.get?];rw[ae hi];rfl
  rw[h4]at h3;rw[h5];exact h3
 .simp only[St.fs,Ax,TM.get?];rw[aa Fn,show m+i-m=i by omega];rfl
 .simp only[TM.length,fi,eo,Array.length_toList,hr.rel.size];rw[hn,<-AZ]
def aaF{X:List Value}{W0:Wb}{heap:List Ob}{j:J}{w:World}:∀{ps:List Nat} {vs:List V} {us:List Value} {tm Vo:TM} {a:Act},Uz tm ps vs=ZA Vo->At cx U n X W0 ⟨tm,heap⟩ j a w->us.length=vs.length->(∀(i:Nat) x,vs[i]? =ZA x->∃u,us[i]? =ZA u/\x.den U j=ZA u)->
  At cx U n X W0 ⟨Vo,heap⟩ j {a with tmps:=(ps.zip us).foldl (fun t p=>t.setIfInBounds p.1 p.2) a.tmps} w/\ps.length=us.length
 |[],[],[],tm,Vo,a,h,hr,_,_=>by cases h;exact⟨hr,rfl⟩
 |p::ps,v::vs,u::us,tm,Vo,a,h,hr,hl,hd=>by
   simp only[Uz]at h;split at h
   .rename_i hp;have hp:p<tm.n:=by simpa[Nat.blt_eq]using hp
    obtain⟨u',h1,h2⟩:=hd 0 v rfl;simp only[cD,bo]at h1;subst h1;have hn:tm.n=n:=hr.own;have h3:At cx U n X W0 ⟨tm.set p v,heap⟩ j (a.put (ZA p) u) w:=by
     refine⟨?_,hr.len,hr.own⟩;have h4:=hr.rel.put (dst:=ZA p) h2 (fun d hd=>by cases hd;omega);have e:(St.mk (tm.set p v) heap).fs=(St.mk tm heap).fs.put (ZA p) v:=by
      refine Fz.ext' (fun t=> ?_) (fun _=>rfl) (fun _=>rfl) (fun _=>rfl);simp only[Fz.put,St.fs,Ax,TM.get_set tm v hp];by_cases ht:p=t
      .subst ht;simp
      .simp[ht]
     rw[e];exact h4
    obtain⟨h5,h6⟩:=aaF h h3 Yf (fun i x hx=>hd (i+1) x Xz);exact⟨h5,by simp[h6]⟩
   .exact Xo
 |[],_::_,_,_,_,_,h,_,_,_=>by cases h
 |_::_,[],_,_,_,_,h,_,_,_=>by cases h
 |[],[],_::_,_,_,_,_,_,hl,_=>by simp at hl
 |_::_,_::_,[],_,_,_,_,_,hl,_=>by simp at hl
def acS{x:LS}(h:LS.same x .ready=ZB):x=.ready:=by cases x<;>first|rfl|cases h
def apD(hm:P.follows .mixedOrders=ZB)(hT:∀t i,(t,i)∈cx.ty->TIok P t i)(hS:∀s∈cx.sm,SmOk P sp s)(AR:∀s∈cx.sm,∀s'∈cx.sm,s.key=s'.key->s=s'){cl:Ij}{r:RfS}(CY:CallOk P sp G cx (ZA r) cl)
  {id:Nat}   {kw:Kw} {k:V->St->Kw->Tr} {R:Value->World->Prop}        {l:Nat} (h:(Pb cl cx fuel r id args s kw k).holds sp G U I) (hg:Good sp cx.sm U kw) (hr:At cx U n X W0 s j a w) (ht:Tie sp (ZA r) X W0)
  (MY:j.g.y id=ZA l) (hl:vals.length=args.length) (hd:∀(i:Nat) x,args[i]? =ZA x->∃u,vals[i]? =ZA u/\x.den U j=ZA u)
  (hR:∀v s' An U' I' j' w' u,(k v s' An).holds sp G U' I'->Good sp cx.sm U' An->Ag kw.vk.length U U'->(∀m,m<kw.lv->I' m=I m)->kw.lv<=An.lv->kw.vk.length<=An.vk.length->v.den U' j'=ZA u->At cx U' n X W0 s' j' a w'->R u w'):
  ∃f tmps assign body,(Instr.yield l vals.toArray).run P w=.ok (.round l f tmps assign body) w/\∀ro,RoundIn (Fw ro) 0 P l f tmps assign body w fun e w'=>∃u,e=.returned u/\R u w':=by
 obtain⟨t0,rf,A,B,t1,t2,t3,t4,t5,t6,t7⟩:=ht;unfold Pb at h;split at h<;>first|exact h.elim|skip
 rename_i y t m hy hf;split at h<;>first|exact h.elim|skip
 rename_i Ea;simp only[ne]at Ea;have hm0:m=r.len:=Ak Ea.1;split at h<;>first|exact h.elim|skip
 rename_i tm htm;have hy0:s.fs.lp id=ZA y:=ow.2 hy;obtain⟨rf',o,e1,e2,e3,e4,e5,e6⟩:=hr.rel.lpZ hy0;rw[t1]at e1;cases e1;have hll:l=rf.l:=by rw[MY]at e2;exact ZN e2
 subst hll;have h0:=aky (r:=r) (rf:=rf) hr t6 t7 (t5.trans hm0.symm) hf;obtain⟨h1,h2⟩:=aaF htm h0 hl hd;have Gy:vals.toArray.size=o.params.size:=by rw[e5.ps,t2];simpa using h2.symm
 refine⟨o.fn,_,o.assign,o.body,run_yield e4 Gy,fun ro=>roundIn_of_wpIn (F:=Fw ro) trivial ?_⟩;have Km:(Fw ro).inRound rf.l=Fw (ZA rf.l):=rfl;rw[Km];have etm:(o.params.zip vals.toArray).foldl (fun tmps (x:Nat×Value)=>match x with|(t,a)=>tmps.setIfInBounds t a) o.tmps=(r.ps.toList.zip vals).foldl (fun t p=>t.setIfInBounds p.1 p.2) rf.tmps:=by rw[e5.ps,e5.tmps,t2,<-Array.foldl_toList,Array.toList_zip]
 rw[etm,e5.assign,t3];have Sq:Tie sp (ZA r) (a.tmps.toList++X) {W0 with top:=ZC}:=(show Tie sp (ZA r) X {W0 with top:=ZC}from⟨t0,rf,A,B,t1,t2,t3,t4,t5,t6,t7⟩).more _;refine oY (rl:=ZE) (ry:=ZA r) CY (fun f hf=>by cases hf) hm hT hS AR fuel r.assign {W0 with top:=ZC} _ kw _ _ U I j _ w Sq (fun e=>by cases e) h hg h1 (fun M1 sg s1 Cc U1 I1 j1 a1 w1 hM1 h' CP CX D2 B4 CQ AV=> ?_);have hM1:M1=W0.M:=hM1 rfl;subst hM1;cases sg with
 |exit id=>exact h'.elim
 |ret=>exact h'.elim
 |normal=>
   dsimp only at h';split at h'<;>first|exact h'.elim|skip
   rename_i y1 Qc;split at h'<;>first|exact h'.elim|skip
   rename_i Ou;rw[ne]at Ou;have Ro:s1.fs.lp id=ZA y1:=ow.2 Qc;obtain⟨Sl,o1,f1,f2,f3,f4,f5,f6⟩:=AV.rel.lpZ Ro;have:Sl=rf:=by have h8:W0.rf=ZA Sl:=f1;rw[t1]at h8;exact(ZN h8).symm
   subst this;refine⟨_,run_beginRound f4 (by rw[f5.st,acS Ou.1];rfl),?_⟩;have h9:=AV.rel.loopSet Ro (fun i yi hi=>Xb Ou.2 i yi hi) f1 f2 f3 (y':=⟨.busy,y1.pend⟩) (o':={o1 with state:=.busy}) ⟨rfl,f5.pend,f5.ps,f5.assign,f5.body,f5.tmps⟩;rw[e5.body,t4];have hat1:At cx U1 m (a.tmps.toList++X) {W0 with top:=ZC} ⟨s1.tmps,s1.heap.set id (.loop ⟨.busy,y1.pend⟩)⟩ (j1.setz Sl.l (ZA (.loop {o1 with state:=.busy}))) a1 (w1.putObj Sl.l (.loop {o1 with state:=.busy})):=by refine⟨?_,AV.len,AV.own⟩;rw[show(St.mk s1.tmps (s1.heap.set id (.loop ⟨.busy,y1.pend⟩))).fs=s1.fs.setl id (ZA ⟨.busy,y1.pend⟩)from sq Qc _];exact h9
   refine oY (rl:=ZE) (ry:=ZA r) CY (fun f hf=>by cases hf) hm hT hS AR fuel r.body {W0 with top:=ZC} _ Cc _ _ U1 I1 _ _ _ Sq (fun e=>by cases e) h' CP hat1 (fun M2 sg s2 Dq U2 I2 j2 a2 w2 On L3 hg'' ha'' hI'' hl'' hv'' hr''=> ?_);have On:M2=W0.M:=On rfl;subst On;split at L3<;>first|exact L3.elim|skip
   rename_i y2 Vd;split at L3<;>first|exact L3.elim|skip
   rename_i Ov;rw[ne]at Ov;have HK:=amH hr hr'' Ov.1;have Rp:(St.mk s2.tmps.pop s2.heap).fs.lp id=ZA y2:=ow.2 Vd;obtain⟨rf2,o2,g1,g2,g3,g4,g5,g6⟩:=HK.rel.lpZ Rp;have:rf2=Sl:=by rw[t1]at g1;exact(ZN g1).symm
   subst this;have ag:Ag kw.vk.length U U2:=CX.trans (ha''.mono CQ);have MM:∀m,m<kw.lv->I2 m=I m:=fun m hm=>(hI'' m Fn).trans (D2 m hm);have Hq:∀(EG:Option Sig) (b:Bool),b=EG.isNone->(∀sg,EG=ZA sg->True)->(k (.one (.bool (.tt b))) ⟨s2.tmps.pop,s2.heap.set id (.loop ⟨if b then .ready else .done,EG⟩)⟩ Dq).holds sp G U2 I2->
    ∃v w',(Instr.endRound rf2.l (EG.map Sig.code)).run P w2=.ok v w'/\∃u,Ending.returned v=.returned u/\R u w':=by
    intro EG b hb _ hh;have hbn:(EG.map Sig.code).isNone=b:=by rw[hb];cases EG<;>rfl
    refine⟨_,_,run_endRound (EG.map Sig.code) g4,_,rfl,?_⟩;rw[hbn];have g9:=HK.rel.loopSet Rp (fun i yi hi=>Xb Ov.2 i yi hi) g1 g2 g3 (y':=⟨if b then .ready else .done,EG⟩) (o':={o2 with state:=if b then .ready else .done,pending:=EG.map Sig.code}) ⟨by cases b<;>rfl,rfl,g5.ps,g5.assign,g5.body,g5.tmps⟩;refine hR _ _ Dq U2 I2 (j2.setz rf2.l (ZA (.loop {o2 with state:=if b then .ready else .done,pending:=EG.map Sig.code}))) _ (.bool b) hh hg'' ag MM Fn Fn (by simp[V.den,C.den,E.B]) ⟨?_,HK.len,HK.own⟩;rw[show(St.mk s2.tmps.pop (s2.heap.set id (.loop ⟨if b then .ready else .done,EG⟩))).fs=(St.mk s2.tmps.pop s2.heap).fs.setl id (ZA ⟨if b then .ready else .done,EG⟩)from sq Vd _];exact g9
   cases sg with
   |normal=>exact Hq ZE ZB rfl (fun _ _=>trivial) L3
   |exit id=>exact Hq (ZA (.exit id)) ZC rfl (fun _ _=>trivial) L3
   |ret=>exact Hq (ZA .ret) ZC rfl (fun _ _=>trivial) L3
def oZ(hm:P.follows .mixedOrders=ZB){fuel:Nat}:∀(d:Nat) (cx:Cx) (ry:Option RfS),(∀t i,(t,i)∈cx.ty->TIok P t i)->(∀s∈cx.sm,SmOk P sp s)->(∀s∈cx.sm,∀s'∈cx.sm,s.key=s'.key->s=s')->(∀p∈cx.fns,P.funcs[p.1]? =ZA p.2.1)->CallOk P sp G cx ry (zH fuel d cx ry)
 |0,cx,ry,_,_,_,_=>⟨fun _ _ _ _ _ _ _ _ _ _ _ _ _ _ _ _ h=>h.elim,fun _ _ _ _ _ _ _ _ _ _ _ _ _ _ _ _ h=>h.elim⟩
 |d+1,cx,ry,hT,hS,AR,hF=>by
   refine⟨fun g args s kw k R U I n X W0 j a w vals JM h hg hr ht hl hd hR=> ?_,fun id args s kw k R U I n X W0 j a w vals l h hg hr ht MY hl hd hR=> ?_⟩
   .have Je:Nat.blt g yB=ZB:=by simpa[Nat.blt_eq]using JM
    simp only[zH,Je,bm]at h;split at h
    .exact h.elim
    .rename_i fn hints cuts Rn;have hf:P.funcs[g]? =ZA fn:=hF _ (af Rn);split at h
     .rename_i c hc;split at h
      .exact h.elim
      .rename_i HS;refine⟨dM hf (by simpa using HS) (by rw[hc];rfl) _ w,?_⟩;refine uN hf hc ?_;have BR:vals.toArray.size=args.length:=Yf;have Fa:=hr.rel.size;have HP:args.length<=args.length+(fn.ntmps-args.length):=Nat.le_add_right _ _;have MI:∀i:Nat,(s.tmps.push args (args.length+(fn.ntmps-args.length))).get? (args.length+(fn.ntmps-args.length)+i)=s.tmps.get? i:=fun i=>TM.push_old_get s.tmps HP i;refine oY (rl:=ZE) (cx:={cx with hints:=hints,cuts:=cuts}) (n:=args.length+(fn.ntmps-args.length)) (X:=a.tmps.toList++X) (oZ hm d _ ry hT hS AR hF) (fun f hf=>by cases hf) hm hT hS AR fuel c {W0 with top:=ZC} _ kw _ _ U I j _ w ht (fun e=>by cases e) h hg
        ⟨⟨rfl,by simp[hl],?_,?_,hr.rel.box,hr.rel.nob,hr.rel.inj,hr.rel.row,hr.rel.nor,hr.rel.sep,hr.rel.rsep,hr.rel.fb,hr.rel.ext,⟨hr.rel.gs.at',hr.rel.gs.box,hr.rel.gs.row,hr.rel.gs.md,hr.rel.gs.nd,hr.rel.gs.lp,hr.rel.gs.nol,hr.rel.gs.ev,hr.rel.gs.tb⟩⟩,?_,TM.push_n _ _ _⟩ ?_
       .intro t ht;rcases bC t args.length with h1|h1
        .obtain⟨u,hu,hdu⟩:=hd t args[t] (AH h1);refine⟨u,?_,.inr ?_⟩
         .rw[Array.getElem?_append_left (by simpa[hl]using h1)];simpa using hu
         .simp only[St.fs,Ax];rw[TM.push_arg s.tmps HP h1,AH h1];exact hdu
        .refine⟨Go.undef,?_,.inr ?_⟩
         .rw[Array.getElem?_append_right (by simpa[hl]using h1)];rw[Array.getElem?_replicate,ae (by rw[BR];omega)]
         .simp only[St.fs,Ax];rw[TM.push_undef s.tmps HP h1 ht];rfl
       .exact abo hr (fun i=>by simp only[St.fs,Ax,MI])
       .simp only[TM.push_length,hr.len,eo,Array.length_toList,Fa]
       .intro M' sg s' An U' I' j' a' w' Eb h' CP CX D2 B4 CQ AV;have Eb:M'=W0.M:=Eb rfl;subst Eb;have AV:At cx U' (args.length+(fn.ntmps-args.length)) (a.tmps.toList++X) {W0 with top:=ZC} s' j' a' w':=⟨AV.rel,AV.len,AV.own⟩
        have Hq:(match Hk cx s' fn.results.toList with
         |some xs=>if ZJ s'.tmps.old.length (s.tmps.old.length+1)&&ZJ s'.tmps.pop.n s.n then k (Qy xs) ⟨s'.tmps.pop,s'.heap⟩ An else .stuck 129
         |none=>.stuck 81:Tr).holds sp G U' I'->a'.defers=[]/\∃v,(results fn a'.tmps).run P w'=.ok v w'/\∃u,Ending.returned v=.returned u/\R u w':=by
         intro h';split at h'
         .rename_i xs MX;split at h'<;>first|exact h'.elim|skip
          rename_i Ea;obtain⟨vs,h1,h2⟩:=rO hT AV MX;exact⟨AV.rel.defers,_,h2,_,rfl,hR (Qy xs) _ An U' I' j' w' _ h' CP CX D2 B4 CQ (aee h1) (amH hr AV Ea)⟩
         .exact h'.elim
        cases sg with
        |exit id=>exact h'.elim
        |normal=>exact Hq h'
        |ret=>exact Hq h'
     .exact h.elim
   .have Je:Nat.blt (yB+id) yB=ZC:=by
     cases hb:Nat.blt (yB+id) yB with
     |false=>rfl
     |true=>
       have:yB+id<yB:=by simpa[Nat.blt_eq]using hb
       omega
    simp only[zH,Je]at h;split at h
    .cases ‹ZC=ZB›
    .split at h
     next r=>rw[show yB+id-yB=id by omega]at h;obtain⟨f,tm,as,bd,h1,h2⟩:=apD (cx:={cx with hints:=r.hints,cuts:=r.cuts}) hm hT hS AR (oZ hm d {cx with hints:=r.hints,cuts:=r.cuts} (ZA r) hT hS AR hF) h hg ⟨hr.rel,hr.len,hr.own⟩ ht MY hl hd (R:=R) (fun v s' An U' I' j' w' u q1 q2 q3 q4 q5 q6 q7 q8=>hR v s' An U' I' j' w' u q1 q2 q3 q4 q5 q6 q7 ⟨q8.rel,q8.len,q8.own⟩);exact⟨f,tm,as,bd,h1,h2⟩
     .exact h.elim
def aqZ(hF:∀p∈cx.fns,P.funcs[p.1]? =ZA p.2.1)(hm:P.follows .mixedOrders=ZB)(hT:∀t i,(t,i)∈cx.ty->TIok P t i)(hS:∀s∈cx.sm,SmOk P sp s)(AR:∀s∈cx.sm,∀s'∈cx.sm,s.key=s'.key->s=s'){f:Nat}(hf:P.funcs[f]? =ZA fn){heap:List Ob}{kw:Kw}(B3:∀(i:Nat) x,args[i]? =ZA x->∃u,vals[i]? =ZA u/\x.den U j=ZA u)(AZ:vals.length=args.length)(ht:ZJ cx.res.length 1 = !tup){X:List Dt}(h:(Nr cx fuel fn args heap kw).holds sp (fun U e=>e.D U=X) U I)(hg:Good sp cx.sm U kw)(w:World)(EE:Start cx U heap j w)(OB:sp.hw w):Calls P f vals.toArray w fun e w'=>∃v,e=.returned v/\RetOk cx.res tup w w' X v:=by
 unfold Nr at h;split at h
 .rename_i c hc;refine kX.1 (callsIn_of_wp_marks (F:=Fw ZE) (n:=0) hf hc trivial ?_);have BR:vals.toArray.size=args.length:=by simpa using AZ
  have jt:∀b,(BP heap b=ZE↔heap.length<=b)/\∀r,BP heap b=ZA (ZA r)->heap[b]? =ZA (.row r):=by
   intro b;refine⟨⟨fun hb=> ?_,fun hb=>by simp[BP,cn hb]⟩,fun r hb=> ?_⟩
   .rcases bC b heap.length with As|DC
    .obtain⟨r,s,e,_⟩:=EE.row b _ (AH As);simp[BP,AH As,e]at hb
    .exact DC
   .unfold BP at hb;split at hb
    next r' hr=>cases hb;exact hr
    .cases hb
    .cases hb
  have AL:∀b r,BP heap b=ZA (ZA r)->r.own=ZC:=fun b r hb=>by obtain⟨r',s,e,h1,_⟩:=EE.row b _ ((jt b).2 r hb);cases e;exact h1
  have Si:∀b,Ce heap b=ZE:=fun b=>by
   unfold Ce;split
   next cs ty hb=>obtain⟨r,s,e,_⟩:=EE.row b _ hb;cases e
   .rfl
  refine oY (P:=P) (n:=args.length+(fn.ntmps-args.length)) (X:=[]) (oZ hm 12 cx ZE hT hS AR hF) (fun f hf=>by cases hf;exact⟨rfl,fun r=>oZ hm 12 cx (ZA r) hT hS AR hF⟩) hm hT hS AR fuel c ⟨w,[],ZB,ZE,sp.hw,fun w' hx=>sp.hx w w' hx OB⟩ _ kw _ _ U I j _ w ⟨rfl,trivial⟩ (fun _=>⟨rfl,rfl⟩) h hg ⟨⟨rfl,by simp[AZ],?_,fun i v hi=>(by simp at hi),fun b cs ty hb=> ?_,fun b _=>EE.nob b,fun b b' k hb=> ?_,fun b r hb=> ?_,fun b hb=>EE.nos b ((jt b).1.1 hb),fun b b' k r s hb=> ?_,fun b b' r r' s s' k hb ho=> ?_,EE.fb,Ext.refl w,⟨fun k o hz=>(by rw[EE.gh]at hz;have:=uM.1 hz;exact⟨this.1,fun e=>by rw[this.2]at e;cases e⟩),fun k o b hz e=>(by rw[EE.nob]at e;cases e),fun k o id r s hz hF hs hc e=>(by rw[EE.gh]at hz;have h1:=(uM.1 hz).2;have h2:r.own=ZC:=AL id r hF;exact hc.elim (fun hc=>Bool.noConfusion (h2.symm.trans hc)) (fun hc=>Bool.noConfusion (h1.symm.trans hc))),fun D hD=>(by cases hD),List.nodup_nil,fun id y hy=> ?_,fun id _ _=>(by rw[EE.gh]),fun id r s hF hs=> ?_,fun id r s hF hk hs=> ?_⟩⟩,(by rw[TM.push_length];rfl),TM.push_n _ _ _⟩ ?_
  .intro t ht;rcases bC t args.length with h1|h1
   .obtain⟨u,hu,hd⟩:=B3 t args[t] (AH h1);refine⟨u,?_,.inr ?_⟩
    .rw[Array.getElem?_append_left (by simpa[AZ]using h1)];simpa using hu
    .simp only[St.fs,Ax];rw[TM.push_arg _ (Nat.le_add_right _ _) h1,AH h1];exact hd
   .refine⟨Go.undef,?_,.inr ?_⟩
    .rw[Array.getElem?_append_right (by simpa[AZ]using h1)];rw[Array.getElem?_replicate,ae (by rw[BR];omega)]
    .simp only[St.fs,Ax];rw[TM.push_undef _ (Nat.le_add_right _ _) h1 ht];rfl
  .rw[show(St.mk (TM.push args (args.length+(fn.ntmps-args.length)) ⟨.u (.one .undef),0,[]⟩) heap).fs.box b=Ce heap b from rfl,Si]at hb;cases hb
  .rw[EE.nob]at hb;cases hb
  .obtain⟨r',s,e,h1,h2,h3⟩:=EE.row b _ ((jt b).2 r hb);cases e;exact⟨s,h2,h3⟩
  .rw[EE.nob]at hb;cases hb
  .rw[AL b r hb]at ho;cases ho
  .obtain⟨r,s,e,_⟩:=EE.row id _ (ow.1 hy);cases e
  .exact fun p hp=>by rw[EE.gh];have h1:=EE.zz id s hs p hp;exact⟨uM.2 h1,h1.2⟩
  .obtain⟨r',s',e,h1,h2,h3⟩:=EE.row id _ ((jt id).2 r hF);cases e;have:=(h3.2.1 (by rw[hk];rfl)).own;rw[h1]at this;cases this
  .intro M' sg s' An U' I' j1' MH w1' _ h' CP CX D2 B4 CQ Ht;have Se:(∀j' w',At cx U' (args.length+(fn.ntmps-args.length)) [] ⟨w,[],ZB,ZE,sp.hw,fun w' hx=>sp.hx w w' hx OB⟩ s' j' {MH with defers:=[]} w'->∃v,(results fn MH.tmps).run P w'=.ok v w'/\∃u,Ending.returned v=.returned u/\RetOk cx.res tup w w' X u)->LeavesInM (Fw ZE) 0 P fn MH.tmps (fun e w'=>∃v,e=.returned v/\RetOk cx.res tup w w' X v) MH.defers .returning w1':=by
    intro hk;rw[Ht.rel.defers];refine Rel.unmark M' rfl Ht.rel (fun j' w' h2=> ?_);obtain⟨v,k1,k2⟩:=hk j' w' ⟨h2,Ht.len,Ht.own⟩;exact⟨v,k1,k2⟩
   have Hq:∀j' w',At cx U' (args.length+(fn.ntmps-args.length)) [] ⟨w,[],ZB,ZE,sp.hw,fun w' hx=>sp.hx w w' hx OB⟩ s' j' {MH with defers:=[]} w'->∀xs,Hk cx s' fn.results.toList=ZA xs->∀e,qJ An.vk s'.heap cx.res xs=ZA e->ot (Gr cx.res xs)=ZB->e.D U'=X->∃v,(results fn MH.tmps).run P w'=.ok v w'/\∃u,Ending.returned v=.returned u/\RetOk cx.res tup w w' X u:=by
    intro j' w' AV xs MX e he hn hX;obtain⟨vs,h1,h2⟩:=rO hT AV MX;have h3:=uH CP.vk AV.rel he h1;have h4:=h3.ret (tup:=tup) ht (by rw[kv h1,qI he]) AV.rel.ext (fun i i' a b k hi Bg hk B2=> ?_) (fun a ha p hp=> ?_)
    .rw[hX]at h4;exact⟨_,h2,_,rfl,h4⟩
    .cases a with
     |none=>cases hk
     |some a=>
       cases b with
       |none=>cases B2
       |some b=>obtain⟨r,Ht,LB⟩:=kP he i a hi;obtain⟨r',OP,P4⟩:=kP he i' b Bg;rw[<-nE]at Ht OP;have q1:=iQ Ht;have q2:=iQ OP;obtain⟨s1,t1,_⟩:=AV.rel.row a r q1;obtain⟨s2,t2,_⟩:=AV.rel.row b r' q2;simp only[WT,t1,t2,Option.getD_some]at hk B2;have:=AV.rel.rsep a b r r' s1 s2 k q1 LB q2 t1 t2 (mY LB hk) (mY P4 B2);subst this;exact wU hn i i' a hi Bg
    .cases a with
     |none=>cases hp
     |some a=>
       obtain⟨i,hi⟩:=List.getElem?_of_mem ha;obtain⟨r,Ht,LB⟩:=kP he i a hi;have GR:=Ht;rw[<-nE]at Ht;have q1:=iQ Ht;obtain⟨s1,t1,t3⟩:=AV.rel.row a r q1;cases Au:HE s'.heap a with
       |false=>simp[Dj,Au]at hp
       |true=>
         have CH:Dj s'.heap j' (ZA a)=s1:=by simp[Dj,Au,t1]
         rw[CH]at hp;have DO:r.kd=.ev:=by unfold HE at Au;rw[GR]at Au;exact RK.isEv_eq Au
         obtain⟨z1,z2⟩:=AV.rel.gs.ev a r s1 q1 t1 p hp;refine⟨(AV.rel.gs.at' _ _ z1).1,z2,(t3.2.2 DO).zb LB p hp,fun u hu e=> ?_⟩;obtain⟨b,hb,rfl⟩:=List.mem_map.1 hu;cases b with
         |none=>cases e
         |some b=>obtain⟨i',Bg⟩:=List.getElem?_of_mem hb;obtain⟨r',OP,P4⟩:=kP he i' b Bg;rw[<-nE]at OP;have q2:=iQ OP;obtain⟨s2,t2,_⟩:=AV.rel.row b r' q2;simp only[WT,t2,Option.getD_some]at e;exact AV.rel.gs.row _ _ b r' s2 z1 q2 t2 (.inl P4) (mY P4 e)
   have QU:(match Hk cx s' fn.results.toList with
     |some xs=>match qJ An.vk s'.heap cx.res xs with
       |some e=>if ot (Gr cx.res xs)then .u e else .stuck 83
       |none=>.stuck 84
     |none=>.stuck 81:Tr).holds sp (fun U e=>e.D U=X) U' I'->LeavesInM (Fw ZE) 0 P fn MH.tmps (fun e w'=>∃v,e=.returned v/\RetOk cx.res tup w w' X v) MH.defers .returning w1':=by
    intro h';split at h'
    .rename_i xs MX;split at h'
     .rename_i e he;split at h'
      next hn=>exact Se (fun j' w' AV=>Hq j' w' AV xs MX e he hn h')
      .exact h'.elim
     .exact h'.elim
    .exact h'.elim
   cases sg with
   |exit id=>exact h'.elim
   |normal=>exact QU h'
   |ret=>exact QU h'
 .exact h.elim
end
def Tr.sc:Nat->Tr->Bool
 |_,.u _|_,.panic|_,.stuck _|_,.at _ _=>ZB
 |n,.br e t f=>e.sc n&&(t.sc n&&f.sc n)
 |n,.call _ ks args v0 t=>args.sc n&&(ZJ v0 n&&t.sc (n+ks.length))
 |n,.next _ args=>args.sc n
 |n,.loop _ v0 vks init body=>init.sc n&&(ZJ v0 n&&body.sc (n+vks.length))
 |n,.cut _ v0 vks pre body=>ZJ v0 n&&(pre.sc n&&body.sc (n+vks.length))
 |n,.any v0 _ t=>ZJ v0 n&&t.sc (n+1)
 |n,.both v0 a b=>ZJ v0 n&&(a.sc n&&b.sc n)
def Tr.asks(sp:Spec)(G:Env->E->Prop):Env->(Nat->List Dt->Prop)->Tr->Prop
 |U,_,.u e=>G U e
 |_,_,.panic=>False
 |_,_,.stuck _=>False
 |_,_,.at _ _=>False
 |U,I,.br e t f=>(e.B U=ZB->t.asks sp G U I)/\(e.B U=ZC->f.asks sp G U I)
 |U,I,.call key ks args v0 t=>sp.pre key (args.D U)/\(eqs U (sp.F key (args.D U)) v0 0 ks->t.asks sp G U I)
 |U,I,.next lv args=>I lv (args.D U)
 |U,I,.any v0 e t=>∀U',Ag v0 U U'->Ae .i64 (U'.i v0)=ZB->e.B U'=ZB->t.asks sp G U' I
 |U,I,.both _ a b=>a.asks sp G U I/\b.asks sp G U I
 | U,I,.loop lv v0 vks init body=>∃(inv:List Dt->Prop) (μ:List Dt->Nat),inv (init.D U)/\
   ∀U',Ag v0 U U'->okDs vks (varsD U' v0 vks)->inv (varsD U' v0 vks)->body.asks sp G U' (H7 I lv fun KH=>inv KH/\μ KH<μ (varsD U' v0 vks))
 | U,I,.cut lv v0 vks pre body=>∃inv:List Dt->Prop,pre.asks sp G U (H7 I lv inv)/\
   ∀U',Ag v0 U U'->okDs vks (varsD U' v0 vks)->inv (varsD U' v0 vks)->body.asks sp G U' I
def Tr.asks_mono{G:Env->E->Prop}:∀(t:Tr) (U:Env) (I I':Nat->List Dt->Prop),(∀n ds,I n ds->I' n ds)->t.asks sp G U I->t.asks sp G U I':=by
 intro t
 induction t with
 |u|panic|stuck=>intro U I I' _ h;exact h
 |br e t f HW ihf=>intro U I I' hi h;exact⟨fun hb=>HW U I I' hi (h.1 hb),fun hb=>ihf U I I' hi (h.2 hb)⟩
 |call key ks args v0 t ih=>intro U I I' hi h;exact⟨h.1,fun he=>ih U I I' hi (h.2 he)⟩
 |next lv args=>intro U I I' hi h;exact hi _ _ h
 |any v0 e t ih=>intro U I I' hi h;exact fun U' h1 h2 h3=>ih U' I I' hi (h U' h1 h2 h3)
 |both v0 a b iha ihb=>intro U I I' hi h;exact⟨iha U I I' hi h.1,ihb U I I' hi h.2⟩
 |loop lv v0 vks init body ih=>
   intro U I I' hi h;obtain⟨inv,μ,h1,h2⟩:=h;refine⟨inv,μ,h1,fun U' ha hd hv=>ih U' _ _ (fun n ds=> ?_) (h2 U' ha hd hv)⟩;unfold H7;split
   .exact id
   .exact hi n ds
 |cut lv v0 vks pre body ihp ihb=>
   intro U I I' hi h;obtain⟨inv,h1,h2⟩:=h;refine⟨inv,ihp U _ _ (fun n ds=> ?_) h1,fun U' ha hd hv=>ihb U' I I' hi (h2 U' ha hd hv)⟩;unfold H7;split
   .exact id
   .exact hi n ds
 |_=>intro U I I' _ h;exact h
def Env.put(U:Env)(v0:Nat)(ds:List Dt):Env:=⟨fun i=>if v0<=i then dI ds (i-v0)else U.i i,fun i=>if v0<=i then dB ds (i-v0)else U.b i,fun i=>if v0<=i then dL ds (i-v0)else U.l i⟩
def mF(U:Env)(v0:Nat)(ds:List Dt):Ag v0 U (U.put v0 ds):=fun i hi=>by have:¬v0<=i:=Fn;simp[Env.put,this]
def ank{U:Env}{ds:List Dt}{v0:Nat}:∀(ks:List CK) (n:Nat),(∀m,n<=m->m<n+ks.length->U.i (v0+m)=dI ds m/\U.b (v0+m)=dB ds m/\U.l (v0+m)=dL ds m)->eqs U ds v0 n ks
 |[],_,_=>trivial
 |k::ks,n,h=>by
   have h0:=h n (ZK _) (by simp);have h1:=ank ks (n+1) (fun m h1 h2=>h m Fn (by simp at h2 ⊢;omega));cases k
   case int=>exact⟨h0.1,h1⟩
   case bool=>exact⟨h0.2.1,h1⟩
   case sl=>exact⟨h0.2.2,h1⟩
   all_goals exact h1
def aac{U:Env}{v0:Nat}{ds:List Dt}:∀(vks:List VK) (n:Nat),okDs vks (ds.drop n)->(∀m,n<=m->m<n+vks.length->U.i (v0+m)=dI ds m/\U.b (v0+m)=dB ds m/\U.l (v0+m)=dL ds m)->varsD U (v0+n) vks=ds.drop n
 |[],n,h,_=>by
   cases hd:ds.drop n with
   |nil=>rfl
   |cons d r=>rw[hd]at h;exact h.elim
 |k::vks,n,h,hv=>by
   cases hd:ds.drop n with
   |nil=>rw[hd]at h;cases k<;>exact h.elim
   |cons d r=>
     rw[hd]at h;obtain⟨d1,d2⟩:=fk hd;have ih:=aac vks (n+1) (by rw[d2];exact h.2) (fun m h1 h2=>hv m Fn (by simp at h2 ⊢;omega));rw[d2]at ih;obtain⟨h1,h2,h3⟩:=hv n (ZK _) (by simp);simp only[varsD];rw[show v0+n+1=v0+(n+1) by omega,ih];congr 1;have ok:=h.1;cases k with
     |int k=>
       cases d with
       |z x=>simp only[varD];rw[h1,QK d1]
       |l L=>exact ok.elim
     |bool=>
       cases d with
       |z x=>simp only[varD];rw[h2];simp only[dB,QK d1];rcases ok with rfl|rfl<;>rfl
       |l L=>exact ok.elim
     |list ks=>
       cases d with
       |z x=>exact ok.elim
       |l L=>simp only[varD];rw[h3,UF d1]
def mD{U:Env}(h:okDs vks ds){U':Env}(ha:Ag (v0+vks.length) (U.put v0 ds) U'):varsD U' v0 vks=ds:=by refine(aac (v0:=v0) (ds:=ds) vks 0 h (fun m _ h2=> ?_));have:=ha (v0+m) Fn;simp only[Env.put,ae (Nat.le_add_right v0 m),Nat.add_sub_cancel_left]at this;exact⟨this.1.symm,this.2.1.symm,this.2.2.symm⟩
def adn{G:Env->E->Prop}:∀(t:Tr) (n:Nat) (U:Env) (I:Nat->List Dt->Prop),t.sc n=ZB->(∀U',Ag n U U'->t.asks sp G U' I)->∃U',Ag n U U'/\t.holds sp G U' I:=by
 intro t
 induction t with
 |u v=>intro n U I _ h;exact⟨U,Ag.refl n U,h U (Ag.refl n U)⟩
 |panic=>intro n U I _ h;exact(h U (Ag.refl n U)).elim
 |stuck m=>intro n U I _ h;exact(h U (Ag.refl n U)).elim
 |next lv args=>intro n U I _ h;exact⟨U,Ag.refl n U,h U (Ag.refl n U)⟩
 |any v0 e t ih=>
   intro n U I hs h;simp only[Tr.sc,ne]at hs;have CQ:=Ak hs.1;subst CQ;refine⟨U,Ag.refl _ _,fun z hz=> ?_⟩;have IJ:∀U',Ag (v0+1) (U.put v0 [.z z]) U'->U'.i v0=z:=fun U' Ed=>by rw[<-(Ed v0 Fn).1];simp[Env.put,dI]
   cases hb:e.B (U.put v0 [.z z])with
   |false=>exact⟨_,mF U v0 _,IJ _ (Ag.refl _ _),fun hf=>by rw[hb]at hf;cases hf⟩
   |true=>
     by_cases BM:∃U',Ag (v0+1) (U.put v0 [.z z]) U'/\e.B U'=ZC
     .obtain⟨U',g1,g2⟩:=BM;exact⟨U',(mF U v0 _).trans (g1.mono Fn),IJ U' g1,fun hf=>by rw[g2]at hf;cases hf⟩
     .have A8:∀U',Ag (v0+1) (U.put v0 [.z z]) U'->e.B U'=ZB:=fun U' g1=>by
       cases hq:e.B U' with
       |true=>rfl
       |false=>exact ai ⟨U',g1,hq⟩ BM
      obtain⟨U',g1,g2⟩:=ih (v0+1) (U.put v0 [.z z]) I hs.2 (fun U' Ed=>h U (Ag.refl _ _) U' ((mF U v0 _).trans (Ed.mono Fn)) (by rw[IJ U' Ed];exact hz) (A8 U' Ed));exact⟨U',(mF U v0 _).trans (g1.mono Fn),IJ U' g1,fun _=>g2⟩
 |br e t f HW ihf=>
   intro n U I hs h;simp only[Tr.sc,ne]at hs;cases hb:e.B U with
   |true=>obtain⟨U',h1,h2⟩:=HW n U I hs.2.1 (fun U' ha=>(h U' ha).1 (by rw[<-(E.sc_eq ha e hs.1).2.1];exact hb));refine⟨U',h1,fun _=>h2,fun hf=> ?_⟩;rw[<-(E.sc_eq h1 e hs.1).2.1,hb]at hf;cases hf
   |false=>obtain⟨U',h1,h2⟩:=ihf n U I hs.2.2 (fun U' ha=>(h U' ha).2 (by rw[<-(E.sc_eq ha e hs.1).2.1];exact hb));refine⟨U',h1,fun hf=> ?_,fun _=>h2⟩;rw[<-(E.sc_eq h1 e hs.1).2.1,hb]at hf;cases hf
 |call key ks args v0 t ih=>
   intro n U I hs h;simp only[Tr.sc,ne]at hs;obtain⟨ha,hv,ht⟩:=hs;have CQ:=Ak hv;subst CQ;have Ua:∀U',Ag (v0+ks.length) (U.put v0 (sp.F key (args.D U))) U'->Ag v0 U U':=fun U' Ed=>(mF U v0 _).trans (Ed.mono Fn);have he:∀U',Ag (v0+ks.length) (U.put v0 (sp.F key (args.D U))) U'->eqs U' (sp.F key (args.D U')) v0 0 ks:=fun U' Ed=>by rw[<-(E.sc_eq (Ua U' Ed) args ha).2.2.2.2];refine ank ks 0 (fun m h1 h2=> ?_);have:=Ed (v0+m) Fn;simp only[Env.put,ae (Nat.le_add_right v0 m),Nat.add_sub_cancel_left]at this;exact⟨this.1.symm,this.2.1.symm,this.2.2.symm⟩
   obtain⟨U',h1,h2⟩:=ih (v0+ks.length) _ I ht (fun U' Ed=>(h U' (Ua U' Ed)).2 (he U' Ed));exact⟨U',Ua U' h1,(h U' (Ua U' h1)).1,he U' h1,h2⟩
 |both v0 a b iha ihb=>intro n U I hs h;simp only[Tr.sc,ne]at hs;obtain⟨hv,ha,hb⟩:=hs;have CQ:=Ak hv;subst CQ;obtain⟨U1,g1,g2⟩:=iha v0 U I ha (fun U' Ed=>(h U' Ed).1);obtain⟨U2,g3,g4⟩:=ihb v0 U I hb (fun U' Ed=>(h U' Ed).2);exact⟨U,Ag.refl _ _,⟨U1,g1,g2⟩,U2,g3,g4⟩
 |loop lv v0 vks init body ih=>
   intro n U I hs h;simp only[Tr.sc,ne]at hs;obtain⟨hi,hv,hb⟩:=hs;have CQ:=Ak hv;subst CQ;obtain⟨inv,μ,h1,h2⟩:=h U (Ag.refl _ _);refine⟨U,Ag.refl _ _,inv,μ,h1,fun ds hd De=> ?_⟩;obtain⟨U',g1,g2⟩:=ih (v0+vks.length) (U.put v0 ds) (H7 I lv fun KH=>inv KH/\μ KH<μ ds) hb (fun U' Ed=>by
    have EN:=mD hd Ed;have:=h2 U' ((mF U v0 ds).trans (Ed.mono Fn)) (by rw[EN];exact hd) (by rw[EN];exact De);rw[EN]at this;exact this)
   exact⟨U',(mF U v0 ds).trans (g1.mono Fn),mD hd g1,g2⟩
 |cut lv v0 vks pre body ihp ihb=>
   intro n U I hs h;simp only[Tr.sc,ne]at hs;obtain⟨hv,hp,hb⟩:=hs;have CQ:=Ak hv;subst CQ;let J:List Dt->Prop:=fun ds=>∃(U1:Env) (inv:List Dt->Prop),Ag v0 U U1/\inv ds/\∀U',Ag v0 U1 U'->okDs vks (varsD U' v0 vks)->inv (varsD U' v0 vks)->body.asks sp G U' I;obtain⟨U2,k1,k2⟩:=ihp v0 U (H7 I lv J) hp (fun U' ha=>by
    obtain⟨inv,h1,h2⟩:=h U' ha;refine pre.asks_mono U' _ _ (fun m ds=> ?_) h1;unfold H7;split
    .exact fun hi=>⟨U',inv,ha,hi,h2⟩
    .exact id)
   refine⟨U2,k1,J,k2,fun ds hd De=> ?_⟩;obtain⟨U1,inv,a1,a2,a3⟩:=De;obtain⟨U',g1,g2⟩:=ihb (v0+vks.length) (U1.put v0 ds) I hb (fun U' Ed=>by
    have EN:=mD hd Ed;exact a3 U' ((mF U1 v0 ds).trans (Ed.mono Fn)) (by rw[EN];exact hd) (by rw[EN];exact a2))
   exact⟨U',(k1.symm.trans a1).trans ((mF U1 v0 ds).trans (g1.mono Fn)),mD hd g1,g2⟩
 |_=>intro n U I _ h;exact(h U (Ag.refl n U)).elim
def arf:C->Value->Bool
 |.int k (.p z),.int k' z'=>bJ k k'&&fH z z'
 |.bool (.tt b),.bool b'=>b==b'
 |.np,.pointer ZE=>ZB
 |.nsl,.slice ZE 0 0=>ZB
 |.nf,.nilFunc=>ZB
 |.nmp,.map ZE=>ZB
 |.str .ln,.string s=>s.data.toList.isEmpty
 |_,_=>ZC
def xF:List C->List Value->Bool
 |[],[]=>ZB
 |c::cs,v::vs=>arf c v&&xF cs vs
 |_,_=>ZC
def alN(h:arf c v=ZB)(U:Env)(j:J):c.den U j=ZA v:=by
 unfold arf at h;split at h
 .simp only[ne]at h;rw[ax h.1,cX h.2];rfl
 .rw[cQ]at h;rw[h];rfl
 .rfl
 .rfl
 .rfl
 .rfl
 next s=>obtain⟨⟨l⟩⟩:=s;have:l=[]:=Xx;subst this;rfl
 .exact Xo
def qM(U:Env)(j:J):∀{cs:List C} {vs:List Value},xF cs vs=ZB->Af U j cs=ZA vs
 |[],[],_=>rfl
 |c::cs,v::vs,h=>by simp only[xF,ne]at h;simp[Af,alN h.1,qM U j h.2]
def kV(P:Program):List Field->List (Nat×Nat)->Bool
 |[],[]=>ZB
 |f::fs,(off,ft)::l=>ZJ f.offset off&&(ZJ f.type ft&&((match P.info? ft with|some i=>!ZJ i.size 0|none=>ZC)&&kV P fs l))
 |_,_=>ZC
def Nl(P:Program)(t:Nat)(i:TI):Bool:=
 match P.info? t,P.underlying t with
 |some CL,ZA d=>
   (((match i.mapt with|none=>ZB|some (k,e)=>(match d with|.map k' e'=>ZJ k k'&&ZJ e e'|_=>ZC))&&(match i.kd with|0=>ZB|1=>(match d with|.pointer _=>ZB|_=>ZC)|2=>(match d with|.string=>ZB|_=>ZC)|_=>ZC))&&(match CL.zero with|some (.agg _)=>i.agg|some _=>!i.agg|none=>ZC))&&(ZJ CL.size i.size&&((match CL.zero with|some z=>xF i.zero z.cells.toList&&ZJ z.cells.toList.length i.size|none=>ZC)&&(ZJ CL.bytes i.bytes&&
   (match d with
    |.struct fs=>i.agg&&(i.arr.isNone&&(i.ik.isNone&&(!i.isb&&(i.sle.isNone&&(!i.fnt&&kV P fs.toList i.fields)))))
    |.array n e=>i.agg&&((match i.arr with|some (m,e')=>ZJ n m&&ZJ e e'|none=>ZC)&&(i.ik.isNone&&(!i.isb&&(i.sle.isNone&&(!i.fnt&&i.fields.isEmpty)))))
    |.int k=>!i.agg&&(i.arr.isNone&&((match i.ik with|some k'=>bJ k k'|none=>ZC)&&(!i.isb&&(i.sle.isNone&&(!i.fnt&&i.fields.isEmpty)))))
    |.bool=>!i.agg&&(i.arr.isNone&&(i.ik.isNone&&(i.sle.isNone&&(!i.fnt&&i.fields.isEmpty))))
    |.slice e=>!i.agg&&(i.arr.isNone&&(i.ik.isNone&&(!i.isb&&((match i.sle with|some e'=>ZJ e e'|none=>ZC)&&(!i.fnt&&i.fields.isEmpty)))))
    |.func _ _ _=>!i.agg&&(i.arr.isNone&&(i.ik.isNone&&(!i.isb&&(i.sle.isNone&&i.fields.isEmpty))))
    |_=>!i.agg&&(i.arr.isNone&&(i.ik.isNone&&(!i.isb&&(i.sle.isNone&&(!i.fnt&&i.fields.isEmpty)))))))))
 |_,_=>ZC
def lS{P:Program}:∀{fs:List Field} {l:List (Nat×Nat)},kV P fs l=ZB->∀(f off ft:Nat),l[f]? =ZA (off,ft)->∃x,fs[f]? =ZA x/\x.offset=off/\x.type=ft/\∃i,P.info? ft=ZA i/\i.size≠0
 |[],[],_,f,off,ft,h=>by simp at h
 |x::fs,(off',ft')::l,hc,f,off,ft,h=>by
   simp only[kV,ne]at hc;cases f with
   |zero=>
     simp only[cD,bo,Prod.mk.injEq]at h;obtain⟨rfl,rfl⟩:=h;refine⟨x,rfl,Ak hc.1,Ak hc.2.1,?_⟩;have h3:=hc.2.2.1;split at h3
     next i hi=>refine⟨i,hi,fun e=> ?_⟩;rw[e]at h3;simp at h3
     .cases h3
   |succ f=>exact lS hc.2.2.2 f off ft Xx
def qO{P:Program}:∀{fs:List Field} {l:List (Nat×Nat)},kV P fs l=ZB->fs.map (fun f=>(f.offset,f.type))=l
 |[],[],_=>rfl
 |x::fs,(off',ft')::l,hc=>by simp only[kV,ne]at hc;rw[List.map_cons,qO hc.2.2.2,Ak hc.1,Ak hc.2.1]
def avX{a b c}(hd:P.underlying t=ZA (.func a b c))(f:Nat)(fa fb)(w:World):(Op.equal t (.func (.func f) fa fb) .nilFunc).run P w=.ok ZC w/\(Op.equal t .nilFunc .nilFunc).run P w=.ok ZB w:=by
 unfold Op.equal;have key:∀d x y,(Op.equalIn (d+1) t x y).run P w=_:=fun d x y=>by rw[Op.equalIn,ZI,run_underlying hd]
 exact⟨(key 9999 _ _).trans rfl,(key 9999 _ _).trans rfl⟩
def arw{i:TI}(h:Nl P t i=ZB)(DM:i.eqok=ZB->∀vs us,aL vs i.zero->aL us i.zero->∀w,(Op.equal t (.agg vs.toArray) (.agg us.toArray)).run P w=.ok (Dh vs us) w)(hgrd:i.eqok=ZB->P.eqGuardType P.depth t=ZC)(hkey:i.keyok=ZB->∀vs,aL vs i.zero->∀b w,(Instr.checkKey b 10000 t (.agg vs.toArray)).run P w=.ok () w):TIok P t i:=by
 unfold Nl at h;split at h
 .rename_i CL d C7 hd;simp only[ne]at h;obtain⟨⟨⟨OH,DO⟩,Jh⟩,h1,h2,hby,h3⟩:=h;have BR:=Ak h1;have RO:∀w,(typeInfo t).run P w=.ok CL w:=fun w=>by simp[typeInfo,program,ZI,Sem.run,C7]
  obtain⟨z,hz,Ey,LC⟩:∃z,CL.zero=ZA z/\xF i.zero z.cells.toList=ZB/\z.cells.toList.length=i.size:=by
   split at h2
   next z hz=>rw[ne]at h2;exact⟨z,hz,h2.1,Ak h2.2⟩
   .exact XU
  clear h1 h2;refine⟨?_,fun w=>by simp[sizeOf,ZI,RO,BR],⟨z,fun w=>by simp[zeroValue,ZI,RO,hz],fun U j=>qM U j Ey⟩,?_,?_,?_,?_,?_,⟨d,hd⟩,DM,hgrd,?_,?_,?_,fun k e hk=> ?_,fun hk=> ?_,fun hk=> ?_,hkey,fun z' MZ=> ?_,⟨CL,z,C7,BR,Ak hby,hz,LC,fun U j=>qM U j Ey⟩⟩
  .intro w;unfold isAgg;rw[ZI,run_underlying hd];cases d<;>simp_all
  .intro f off ft hf w a;cases d<;>simp_all;rename_i fs;obtain⟨x,hx,rfl,rfl,RU,hi,BM⟩:=lS (P:=P) h3.2.2.2.2.2.2 f off ft hf;have F9:fs[f]? =ZA x:=by rw[<-lE];exact hx
   have hs:∀w,(sizeOf x.type).run P w=.ok RU.size w:=fun w=>by simp[sizeOf,typeInfo,program,ZI,Sem.run,hi]
   simp[Instr.fieldAt,run_underlying hd,ZI,F9,Instr.sureAddr,fieldPlace,hs,BM]
  .intro f off ft hf w cs;cases d<;>simp_all;rename_i fs;obtain⟨x,hx,rfl,rfl,RU,hi,BM⟩:=lS (P:=P) h3.2.2.2.2.2.2 f off ft hf;have F9:fs[f]? =ZA x:=by rw[<-lE];exact hx
   simp[Instr.field,run_underlying hd,ZI,F9,asAgg]
  .intro n e ha;cases d<;>simp_all
  .intro h1 h2;cases d<;>simp_all;exact qO (P:=P) h3.2.2.2.2
  .intro k hk;cases d<;>simp_all;rw[ax h3.2.2.1]
  .intro hb;cases d<;>simp_all
  .intro e he;cases d<;>simp_all
  .intro hb f fa fb w;cases d<;>simp_all;exact avX hd f fa fb w
  .rw[hk]at OH;dsimp only at OH;split at OH
   .simp only[ne]at OH;rw[hd,Ak OH.1,Ak OH.2]
   .cases OH
  .simp only[hk]at DO;cases d<;>first|exact⟨_,hd⟩|cases DO
  .simp only[hk]at DO;cases d<;>first|exact hd|cases DO
  .have e0:=MZ ⟨#[],fun _ _=>0,0,default,#[]⟩;have e1:z'=z:=by
    simp[zeroValue,ZI,RO,hz]at e0;exact e0.symm
   subst e1;rw[hz]at Jh;cases z'<;>simp_all [Value.cells]
 .exact Xo
def kl:∀{z z':List C} {vs:List Value},fD z z'=ZB->aL vs z->aL vs z'
 |[],[],vs,_,h=>h
 |.int k a::l,.int k' b::r,vs,hk,h=>by simp only[fD,ne]at hk;obtain⟨x,us,rfl,h1,h2⟩:=ah h;exact⟨ax hk.1,h1,kl hk.2 h2⟩
 |.bool a::l,.bool b::r,vs,hk,h=>by simp only[fD]at hk;obtain⟨x,us,rfl,h2⟩:=dW h;exact kl (z:=l) (z':=r) hk h2
def cV:List Value->List Lit
 |.int k x::l=>.int k x::cV l
 |.bool b::l=>.bool b::cV l
 |_=>[]
def ux:∀{z:List C} {vs us:List Value},aL vs z->aL us z->(Dh vs us=ZB↔cV vs=cV us)
 |[],vs,us,h,h'=>by rw[bT h,bT h'];simp[Dh]
 |.int k e::r,vs,us,h,h'=>by obtain⟨x,l,rfl,_,h2⟩:=ah h;obtain⟨y,m,rfl,_,g2⟩:=ah h';simp[Dh,cV,ux h2 g2]
 |.bool e::r,vs,us,h,h'=>by obtain⟨x,l,rfl,h2⟩:=dW h;obtain⟨y,m,rfl,g2⟩:=dW h';simp[Dh,cV,ux h2 g2]
 |.yld _::_,vs,us,h,_|.wn _ _ _ _ _::_,vs,us,h,_|.aw _ _ _ _ _ _ _::_,vs,us,h,_|.str _::_,vs,us,h,_|.pe _ _ _ _ _ _::_,vs,us,h,_|.nmp::_,vs,us,h,_|.mp _::_,vs,us,h,_|.itp _ _::_,vs,us,h,_|.ptr _ _::_,vs,us,h,_|.fp _ _::_,vs,us,h,_|.fn _::_,vs,us,h,_|.np::_,vs,us,h,_|.undef::_,vs,us,h,_|.sl _::_,vs,us,h,_|.ep _ _ _ _::_,vs,us,h,_|.nsl::_,vs,us,h,_|.nf::_,vs,us,h,_|.clo _ _ _::_,vs,us,h,_=>by
   cases vs with
   |nil=>exact h.elim
   |cons v l=>cases v<;>exact h.elim
def iI(hk:P.keyTypeAt 6 t=ZB)(hf:∀vs,aL vs z->(Value.agg vs.toArray).formed P t=ZB)(D:Nat)(hl:∀vs,aL vs z->P.keyLits D t vs=ZA (cV vs))(vs us:List Value)(hv:aL vs z)(hu:aL us z)(w:World):
  (Op.equal t (.agg vs.toArray) (.agg us.toArray)).run P w=.ok (Dh vs us) w:=by
 obtain⟨r,hr,hiff⟩:=run_equalIn_deep (P:=P) 9994 6 t hk w D D (.agg vs.toArray) (.agg us.toArray) _ _ (hf vs hv) (hf us hu) (by simpa[Value.cells]using hl vs hv) (by simpa[Value.cells]using hl us hu);unfold Op.equal Op.maxDepth;rw[show(10000:Nat)=9994+6 from rfl,hr];congr 1;rw[ao,hiff,ux hv hu]
structure Ini where
 vk:List VK
 rows:List RowOb
 fb:List (List C)
def CA(v id:Nat):CK->C×List VK×List RowOb
 |.int k=>(.int k (.w v),[.int k],[])
 |.bool=>(.bool (.s v),[.bool],[])
 |.fn g=>(.fn g,[],[])
 |.p k z=>(.int k (.p z),[],[])
 |.sl ks ty=>(.sl id,[.list ks],[⟨ks,ty,.g v,ZC,CR ks⟩])
 |.nf=>(.nf,[],[])
 |.any=>(.undef,[],[])
 |.rl ks ty L=>(.sl id,[],[⟨ks,ty,M8 ks .ln L,ZC,CR ks⟩])
 |.el ks ty=>(.ep id ks.length (.p 0) 0,[.list ks],[⟨ks,ty,.g v,ZC,CR ks⟩])
def DE(v id:Nat):List CK->List C×List VK×List RowOb
 |[]=>([],[],[])
 |k::ks=>let x:=CA v id k;let y:=DE (v+x.2.1.length) (id+x.2.2.length) ks;(x.1::y.1,x.2.1++y.2.1,x.2.2++y.2.2)
def Cs(v id D1:Nat):List Sh->List V×List VK×List RowOb×List (List C)
 |[]=>([],[],[],[])
 |.one k::ss=>let x:=CA v id k;let y:=Cs (v+x.2.1.length) (id+x.2.2.length) D1 ss;(.one x.1::y.1,x.2.1++y.2.1,x.2.2++y.2.2.1,y.2.2.2)
 |.agg ks::ss=>let x:=DE v id ks;let y:=Cs (v+x.2.1.length) (id+x.2.2.length) D1 ss;(.agg x.1::y.1,x.2.1++y.2.1,x.2.2++y.2.2.1,y.2.2.2)
 |.ptr ks::ss=>let x:=DE v id ks;let y:=Cs (v+x.2.1.length) (id+x.2.2.length) (D1+1) ss;(.one (.fp D1 0)::y.1,x.2.1++y.2.1,x.2.2++y.2.2.1,x.1::y.2.2.2)
def JD:CK->Bool
 |.sl ks _=>decide (0<ks.length)
 |.el ks _=>decide (0<ks.length) &&!di ks Dn
 |.any=>ZC
 |_=>ZB
def aua:CK->Bool
 |.any=>ZB
 |k=>JD k
def Uy:Sh->Bool
 |.ptr ks=>ks.all aua
 |s=>s.cks.all JD
def J1(ss:List Sh):Bool:=ss.all Uy
section
variable {P:Program}{sp:Spec}{U:Env}{w:World}
def vb{U:Env}:∀(a b:List VK) (v:Nat),varsD U v (a++b)=varsD U v a++varsD U (v+a.length) b
 |[],b,v=>rfl
 |k::a,b,v=>by simp only[List.cons_append,varsD,vb a b (v+1),YQ];rw[show v+1+a.length=v+(a.length+1) by omega]
def od{U:Env}:∀(a:List VK) (v:Nat),(varsD U v a).length=a.length
 |[],v=>rfl
 |k::a,v=>by simp[varsD,od a (v+1)]
def abA:∀{a b:List VK} {x y:List Dt},okDs a x->okDs b y->okDs (a++b) (x++y)
 |[],b,[],y,_,h=>h
 |k::a,b,d::x,y,h,h'=>⟨h.1,abA h.2 h'⟩
 |[],b,_::_,y,h,_=>h.elim
 |k::a,b,[],y,h,_=>by cases k<;>exact h.elim
def abz:∀{a:List VK} {x:List Dt},okDs a x->x.length=a.length
 |[],[],_=>rfl
 |k::a,d::x,h=>by simp[abz h.2]
 |[],_::_,h=>h.elim
 |k::a,[],h=>by cases k<;>exact h.elim
def aui(b:Bool):AD b=0\/AD b=1:=by cases b<;>simp[AD]
structure ArgOk(w:World)(v id:Nat)(vk:List VK)(rows:List RowOb)(d:List Dt)(svs:List SV)(den:Env->J->Prop):Prop where
 len:svs.length=rows.length
 zz:∀s∈svs,∀p∈s.z,w.heap[p.1]? =ZA p.2/\Cg p.2=ZB
 ok:okDs vk d
 at':∀(U:Env) (j:J),varsD U v vk=d->(∀(i:Nat) s,svs[i]? =ZA s->j.s (id+i)=ZA s)->den U j/\∀(i:Nat) s q,svs[i]? =ZA s->rows[i]? =ZA q->q.own=ZC/\∀base,RowOk U base w s q
def KJ(w:World):List SV->List (Nat×Obj)
 |[]=>[]
 |x::l=>(match x.blk ZC with
   |some k=>(match w.heap[k]? with|some o=>[(k,o)]|none=>[])
   |none=>[])++KJ w l
def ani:∀{ins:List SV},(∀x∈ins,∀k,x.blk ZC=ZA k->∃o,w.heap[k]? =ZA o/\Cg o=ZB)->∀p∈KJ w ins,w.heap[p.1]? =ZA p.2/\Cg p.2=ZB
 |[],_,p,hp=>by cases hp
 |x::l,h,p,hp=>by
   simp only[KJ,ZY]at hp;rcases hp with hp|hp
   .cases hb:x.blk ZC with
    |none=>rw[hb]at hp;cases hp
    |some k=>obtain⟨o,h1,h2⟩:=h x bW k hb;rw[hb]at hp;simp only[h1,dA]at hp;subst hp;exact⟨h1,h2⟩
   .exact ani (fun y hy=>h y (cR _ hy)) p hp
def anj:∀{ins:List SV} {x:SV},x∈ins->∀p∈KJ w [x],p∈KJ w ins
 |y::l,x,h,p,hp=>by
   rcases YS.1 h with rfl|h
   .simp only[KJ,List.append_nil]at hp;simp only[KJ,ZY];exact .inl hp
   .have:=anj h p hp;simp only[KJ,ZY];exact .inr this
def EvIn.ei{row:List Int}{x:SV}{z:List (Nat×Obj)}(h:EvIn w row x)(hz:∀p∈KJ w [x],p∈z):EiOk z row x:=by
 have blk:∀k,x.blk ZC=ZA k->∃o,(k,o)∈z/\w.heap[k]? =ZA o:=fun k hk=>by obtain⟨o,h1,h2⟩:=h.blk k hk;exact⟨o,hz _ (by simp[KJ,hk,h1]),h1⟩
 refine⟨h.n,h.most,h.rest,fun w' hw=>h.rd.kept (fun k hk=> ?_),fun k hk=> ?_⟩
 .obtain⟨o,h1,h2⟩:=blk k hk;rw[h2];exact hw _ h1
 .obtain⟨o,h1,_⟩:=blk k hk;exact⟨o,h1⟩
def zn{u:Value}(hk:JD k=ZB)(h:xG w k xs u r)(v id:Nat):∃d svs,xs=d++r/\ArgOk w v id (CA v id k).2.1 (CA v id k).2.2 d svs (fun U j=>(CA v id k).1.den U j=ZA u):=by
 cases k with
 |int k=>obtain⟨x,rfl,rfl,hx⟩:=h;refine⟨[.z x],[],rfl,rfl,fun s hs=>(by cases hs),⟨hx,trivial⟩,fun U j hd _=>⟨?_,fun i s q hs=>by simp at hs⟩⟩;simp only[CA,varsD,varD,Be,Dt.z.injEq,and_true]at hd;simp[CA,C.den,E.I,hd]
 |bool=>obtain⟨b,rfl,rfl⟩:=h;refine⟨[.z (AD b)],[],rfl,rfl,fun s hs=>(by cases hs),⟨aui b,trivial⟩,fun U j hd _=>⟨?_,fun i s q hs=>by simp at hs⟩⟩;simp only[CA,varsD,varD,Be,Dt.z.injEq,and_true]at hd;simp[CA,C.den,E.B,nW hd]
 |fn g=>obtain⟨rfl,rfl⟩:=h;exact⟨[],[],rfl,rfl,fun s hs=>(by cases hs),trivial,fun U j _ _=>⟨rfl,fun i s q hs=>by simp at hs⟩⟩
 |p k z=>obtain⟨rfl,rfl⟩:=h;exact⟨[],[],rfl,rfl,fun s hs=>(by cases hs),trivial,fun U j _ _=>⟨rfl,fun i s q hs=>by simp at hs⟩⟩
 |nf=>obtain⟨rfl,rfl⟩:=h;exact⟨[],[],rfl,rfl,fun s hs=>(by cases hs),trivial,fun U j _ _=>⟨rfl,fun i s q hs=>by simp at hs⟩⟩
 |any=>cases hk
 |el ks ty=>
   obtain⟨row,p,rfl,rfl,AW,As,BB⟩:=h;have hL:RowsIn ks [row]:=⟨fun r hr=>(by rw[dA.1 hr];exact AW),by simp[maxLen]⟩
   simp only[JD,ne,aE,ZO]at hk;have DO:CR ks=.sl:=by
    rcases cH ks with⟨h1,_⟩|⟨_,h1⟩
    .rw[h1]at hk;exact ai hk.2 ST
    .exact h1
   have Kp:p.add 0=p:=XV;refine⟨[.l [row]],[⟨ZA p,1,1,[]⟩],rfl,rfl,fun s' Bj=>Yr,⟨hL,trivial⟩,fun U j hd hs=>⟨?_,fun i s' q Bj hq=> ?_⟩⟩
   .have:=hs 0 _ rfl;simp only[ZR]at this;simp[CA,C.den,this,SV.elem,E.I,Kp]
   .simp only[CA,varsD,varD,Be,Dt.l.injEq,and_true]at hd;cases i with
    |succ i=>simp at Bj
    |zero=>
      simp only[CA,cD,bo]at Bj hq;subst Bj hq;refine⟨rfl,fun base=>SlOk.row ⟨?_,?_,hk.1,fun k hb=> ?_,fun ho=>(by cases ho),?_⟩ DO⟩
      .simp only[E.R,hd];rfl
      .simp only[E.R,hd];exact hL
      .have hb:=ay hb;simp only[SV.v,Value.ownBlock,bo]at hb;subst hb;exact As
      .simp only[E.R,hd];refine⟨by rw[bw hL.row];rfl,ZK _,by simp[maxLen],fun h=>Xo,fun a ha i u hu=> ?_⟩;cases ha;exact BB i u hu
 |rl ks ty L=>
   obtain⟨rfl,Aj,s,rfl,hn,By,As⟩:=h;refine⟨[],[{s with z:=[]}],rfl,rfl,fun s' Bj=>Yr,trivial,fun U j hd hs=>⟨?_,fun i s' q Bj hq=> ?_⟩⟩
   .have:=hs 0 _ rfl;simp only[ZR]at this;show(j.s id).map SV.v=_;rw[this];rfl
   .obtain⟨hR,AS,hp,DO⟩:=yR (U:=U) Aj;unfold TRow at By;rw[DO]at By;cases i with
    |succ i=>simp at Bj
    |zero=>
      simp only[CA,cD,bo]at Bj hq;subst Bj hq;refine⟨rfl,fun base=>SlOk.row ⟨?_,?_,hp,As,fun ho=>(by cases ho),?_⟩ DO⟩
      .simp only[hR];exact hn
      .simp only[hR];exact AS
      .simp only[hR];exact By
 |sl ks ty=>
   obtain⟨L,s,rfl,rfl,hn,By,AS,As⟩:=h;unfold TRow at By;rcases cH ks with⟨Cq,DO⟩|⟨_,DO⟩
   .rw[DO]at By;obtain⟨ins,Bc,Gx,Iz⟩:=By;have DV:∀x∈ins,∀k,x.blk ZC=ZA k->∃o,w.heap[k]? =ZA o/\Cg o=ZB:=fun x hx=>by
     obtain⟨i,hi⟩:=List.getElem?_of_mem hx;have As:i<L.length:=by rw[<-Bc];exact(cZ.1 hi).1
     exact(Iz i L[i] x (AH As) hi).blk
    refine⟨[.l L],[{s with z:=KJ w ins}],rfl,rfl,fun s' Bj=>(by rw[dA.1 Bj];exact ani DV),⟨AS,trivial⟩,fun U j hd hs=>⟨?_,fun i s' q Bj hq=> ?_⟩⟩
    .have:=hs 0 _ rfl;simp only[ZR]at this;show(j.s id).map SV.v=_;rw[this];rfl
    .simp only[CA,varsD,varD,Be,Dt.l.injEq,and_true]at hd;cases i with
     |succ i=>simp at Bj
     |zero=>
       simp only[CA,cD,bo]at Bj hq;subst Bj hq;refine⟨rfl,fun base=>EvOk.row ⟨Cq,?_,?_,As,fun ho=>(by cases ho),ins,?_,fun ho=>(by cases ho),?_,fun i row x hr hx=> ?_⟩ DO⟩
       .simp only[E.R,hd];exact hn
       .simp only[E.R,hd];exact AS
       .simp only[E.R,hd];exact Bc
       .simp only[E.R,hd];exact Gx
       .simp only[E.R,hd]at hr;exact(Iz i row x hr hx).ei (fun p hp=>(anj (fI hx)) p hp)
   .rw[DO]at By;refine⟨[.l L],[{s with z:=[]}],rfl,rfl,fun s' Bj=>Yr,⟨AS,trivial⟩,fun U j hd hs=>⟨?_,fun i s' q Bj hq=> ?_⟩⟩
    .have:=hs 0 _ rfl;simp only[ZR]at this;show(j.s id).map SV.v=_;rw[this];rfl
    .simp only[CA,varsD,varD,Be,Dt.l.injEq,and_true]at hd;cases i with
     |succ i=>simp at Bj
     |zero=>
       simp only[CA,cD,bo]at Bj hq;subst Bj hq;refine⟨rfl,fun base=>SlOk.row ⟨?_,?_,Ah hk,As,fun ho=>(by cases ho),?_⟩ DO⟩
       .simp only[E.R,hd];exact hn
       .simp only[E.R,hd];exact AS
       .simp only[E.R,hd];exact By
def ArgOk.app{v id:Nat}{vk1 vk2:List VK}{Lg M9:List RowOb}{d1 d2:List Dt}{s1 s2:List SV}{QR QS:Env->J->Prop}(h1:ArgOk w v id vk1 Lg d1 s1 QR)(h2:ArgOk w (v+vk1.length) (id+Lg.length) vk2 M9 d2 s2 QS):
  ArgOk w v id (vk1++vk2) (Lg++M9) (d1++d2) (s1++s2) (fun U j=>QR U j/\QS U j):=by
 refine⟨by simp[h1.len,h2.len],fun s hs=>(ZY.1 hs).elim (h1.zz s) (h2.zz s),abA h1.ok h2.ok,fun U j hd hs=> ?_⟩;rw[vb]at hd;obtain⟨e1,e2⟩:=List.append_inj hd (by rw[od,abz h1.ok]);obtain⟨a1,a2⟩:=h1.at' U j e1 (fun i s hi=>hs i s (by rw[A9 (cZ.1 hi).1];exact hi));obtain⟨b1,b2⟩:=h2.at' U j e2 (fun i s hi=>by
  have:=hs (s1.length+i) s (by rw[Bo Fn,Nat.add_sub_cancel_left];exact hi);rw[h1.len]at this;rwa [ZU])
 refine⟨⟨a1,b1⟩,fun i s q hi hq=> ?_⟩;rcases bC i s1.length with As|DC
 .rw[A9 As]at hi;rw[A9 (by rw[<-h1.len];exact As)]at hq;exact a2 i s q hi hq
 .rw[Bo DC]at hi;rw[Bo (by rw[<-h1.len];exact DC),<-h1.len]at hq;exact b2 _ s q hi hq
def ah5:∀{ks:List CK} {xs r:List Dt} {us:List Value},ks.all JD=ZB->lz w ks xs us r->∀(v id:Nat),∃d svs,xs=d++r/\ArgOk w v id (DE v id ks).2.1 (DE v id ks).2.2 d svs (fun U j=>Af U j (DE v id ks).1=ZA us)
 |[],xs,r,us,_,h,v,id=>by obtain⟨rfl,rfl⟩:=h;exact⟨[],[],rfl,rfl,fun s hs=>(by cases hs),trivial,fun U j _ _=>⟨rfl,fun i s q hs=>by simp at hs⟩⟩
 |k::ks,xs,r,us,hk,h,v,id=>by simp only[YX,ne]at hk;obtain⟨u,Su,r',rfl,h1,h2⟩:=h;obtain⟨d1,s1,rfl,g1⟩:=zn hk.1 h1 v id;obtain⟨d2,s2,rfl,g2⟩:=ah5 hk.2 h2 (v+(CA v id k).2.1.length) (id+(CA v id k).2.2.length);refine⟨d1++d2,s1++s2,by simp,?_⟩;obtain⟨q1,qz,q2,q3⟩:=g1.app g2;refine⟨q1,qz,q2,fun U j hd hs=> ?_⟩;obtain⟨⟨a1,a2⟩,a3⟩:=q3 U j hd hs;exact⟨by simp only[DE,Af,a1,a2],a3⟩
def WC(w:World)(U:Env)(j:J)(fb:List (List C))(D1:Nat)(JF:List Nat):Prop:=∀(b:Nat) cs,fb[b]? =ZA cs->∃k vs,JF[b]? =ZA k/\k<w.heap.size/\Af U j cs=ZA vs/\∀(o:Nat) u,vs[o]? =ZA u->jM cs o=ZB->w.cell? ⟨k,o,ZE⟩=ZA u
def zl:∀{ks:List CK} {xs r:List Dt} {us:List Value},ks.all aua=ZB->lz w ks xs us r->∀(v id:Nat),∃d svs Su,xs=d++r/\ArgOk w v id (DE v id ks).2.1 (DE v id ks).2.2 d svs (fun U j=>Af U j (DE v id ks).1=ZA Su)/\∀(o:Nat) u,Su[o]? =ZA u->jM (DE v id ks).1 o=ZB->us[o]? =ZA u
 |[],xs,r,us,_,h,v,id=>by obtain⟨rfl,rfl⟩:=h;exact⟨[],[],[],rfl,⟨rfl,fun s hs=>(by cases hs),trivial,fun U j _ _=>⟨rfl,fun i s q hs=>by simp at hs⟩⟩,fun o u hu=>by simp at hu⟩
 |k::ks,xs,r,us,hk,h,v,id=>by
   simp only[YX,ne]at hk;obtain⟨u,us1,r',rfl,h1,h2⟩:=h;by_cases hany:k=.any
   .subst hany;have e1:xs=r':=h1;subst e1;obtain⟨d2,s2,us2,rfl,g2,g3⟩:=zl hk.2 h2 v id;refine⟨d2,s2,Go.undef::us2,rfl,?_,fun o u' hu hs=> ?_⟩
    .obtain⟨q1,qz,q2,q3⟩:=g2;refine⟨q1,qz,q2,fun U j hd hs=> ?_⟩;obtain⟨a1,a2⟩:=q3 U j hd hs;exact⟨by simp only[DE,CA,Af,C.den];simp only[List.length_nil,ZR];rw[a1],a2⟩
    .cases o with
     |zero=>cases hs
     |succ o=>simpa using g3 o u' X2 hs
   .have ES:JD k=ZB:=by
     have:=hk.1;cases k<;>first|exact this|exact ai rfl hany
    obtain⟨d1,s1,rfl,g1⟩:=zn ES h1 v id;obtain⟨d2,s2,us2,rfl,g2,g3⟩:=zl hk.2 h2 (v+(CA v id k).2.1.length) (id+(CA v id k).2.2.length);refine⟨d1++d2,s1++s2,u::us2,by simp,?_,fun o u' hu hs=> ?_⟩
    .obtain⟨q1,qz,q2,q3⟩:=g1.app g2;refine⟨q1,qz,q2,fun U j hd hs=> ?_⟩;obtain⟨⟨a1,a2⟩,a3⟩:=q3 U j hd hs;exact⟨by simp only[DE,Af,a1,a2],a3⟩
    .cases o with
     |zero=>simpa using hu
     |succ o=>simpa using g3 o u' X2 hs
def uC:∀{ss:List Sh} {xs:List Dt} {vals:List Value},J1 ss=ZB->nB w ss xs vals->∀(v id D1:Nat),∃svs JF,JF.length=(Cs v id D1 ss).2.2.2.length/\(Cs v id D1 ss).1.length=vals.length/\ArgOk w v id (Cs v id D1 ss).2.1 (Cs v id D1 ss).2.2.1 xs svs (fun U j=>(∀(i:Nat) k,JF[i]? =ZA k->j.f (D1+i)=ZA k)->(∀(i:Nat) x,(Cs v id D1 ss).1[i]? =ZA x->∃u,vals[i]? =ZA u/\x.den U j=ZA u)/\WC w U j (Cs v id D1 ss).2.2.2 D1 JF)
 |[],xs,vals,_,h,v,id,D1=>by obtain⟨rfl,rfl⟩:=h;exact⟨[],[],rfl,rfl,rfl,fun s hs=>(by cases hs),trivial,fun U j _ _=>⟨fun _=>⟨fun i x hx=>by simp[Cs]at hx,fun b cs hb=>by simp[Cs]at hb⟩,fun i s q hs=>by simp at hs⟩⟩
 |.one k::ss,xs,vals,hk,h,v,id,D1=>by
   simp only[J1,Uy,YX,ne,Sh.cks,List.all_nil,Bool.and_true]at hk;obtain⟨u,us,r,rfl,h1,h2⟩:=h;obtain⟨d1,s1,rfl,g1⟩:=zn hk.1 h1 v id;obtain⟨s2,JF,hf,hl,g2⟩:=uC (ss:=ss) hk.2 h2 (v+(CA v id k).2.1.length) (id+(CA v id k).2.2.length) D1;obtain⟨q1,qz,q2,q3⟩:=g1.app g2;refine⟨s1++s2,JF,hf,by simp[Cs,hl],q1,qz,q2,fun U j hd hs=> ?_⟩;obtain⟨⟨a1,a2⟩,a3⟩:=q3 U j hd hs;refine⟨fun hj=> ?_,a3⟩;obtain⟨b1,b2⟩:=a2 hj;refine⟨fun i x hx=> ?_,b2⟩;cases i with
   |zero=>simp only[Cs,cD,bo]at hx;subst hx;exact⟨u,rfl,a1⟩
   |succ i=>exact b1 i x (by simpa[Cs]using hx)
 |.agg ks::ss,xs,vals,hk,h,v,id,D1=>by
   simp only[J1,Uy,YX,ne,Sh.cks]at hk;obtain⟨ws,us,r,rfl,h1,h2⟩:=h;obtain⟨d1,s1,rfl,g1⟩:=ah5 hk.1 h1 v id;obtain⟨s2,JF,hf,hl,g2⟩:=uC (ss:=ss) hk.2 h2 (v+(DE v id ks).2.1.length) (id+(DE v id ks).2.2.length) D1;obtain⟨q1,qz,q2,q3⟩:=g1.app g2;refine⟨s1++s2,JF,hf,by simp[Cs,hl],q1,qz,q2,fun U j hd hs=> ?_⟩;obtain⟨⟨a1,a2⟩,a3⟩:=q3 U j hd hs;refine⟨fun hj=> ?_,a3⟩;obtain⟨b1,b2⟩:=a2 hj;refine⟨fun i x hx=> ?_,b2⟩;cases i with
   |zero=>simp only[Cs,cD,bo]at hx;subst hx;exact⟨_,rfl,by simp[V.den,a1]⟩
   |succ i=>exact b1 i x (by simpa[Cs]using hx)
 |.ptr ks::ss,xs,vals,hk,h,v,id,D1=>by
   simp only[J1,Uy,YX,ne]at hk;obtain⟨kk,ws,us,r,rfl,h1,As,BB,h2⟩:=h;obtain⟨d1,s1,SB,rfl,g1,gw⟩:=zl hk.1 h1 v id;obtain⟨s2,JF,hf,hl,g2⟩:=uC (ss:=ss) hk.2 h2 (v+(DE v id ks).2.1.length) (id+(DE v id ks).2.2.length) (D1+1);obtain⟨q1,qz,q2,q3⟩:=g1.app g2;refine⟨s1++s2,kk::JF,by simp[Cs,hf],by simp[Cs,hl],q1,qz,q2,fun U j hd hs=> ?_⟩;obtain⟨⟨a1,a2⟩,a3⟩:=q3 U j hd hs;refine⟨fun hj=> ?_,a3⟩;obtain⟨b1,b2⟩:=a2 (fun i k hi=>by
    have:=hj (i+1) k XS;rwa [show D1+(i+1)=D1+1+i by omega]at this)
   refine⟨fun i x hx=> ?_,fun b cs hb=> ?_⟩
   .cases i with
    |zero=>simp only[Cs,cD,bo]at hx;subst hx;have:=hj 0 kk rfl;rw[ZR]at this;exact⟨_,rfl,by simp[V.den,C.den,this]⟩
    |succ i=>exact b1 i x (by simpa[Cs]using hx)
   .cases b with
    |zero=>simp only[Cs,cD,bo]at hb;subst hb;exact⟨kk,SB,rfl,As,a1,fun o u hu hs=>BB o u (gw o u hu hs)⟩
    |succ b=>exact b2 b cs (by simpa[Cs]using hb)
def fP(w:World)(o:Obj):w.heap.size<(w.alloc o).heap.size:=by
 have h:=heap_alloc_new w o;rcases bC w.heap.size (w.alloc o).heap.size with h1|h1
 .exact h1
 .rw[Array.getElem?_eq_none h1]at h;cases h
def EvIn.mono(hx:Ext w w'){row:List Int}{x:SV}(h:EvIn w row x):EvIn w' row x:=by
 have lt:∀k,x.blk ZC=ZA k->k<w.heap.size:=fun k hk=>by obtain⟨o,h1,_⟩:=h.blk k hk;exact(ig.1 h1).1
 refine⟨h.n,h.most,h.rest,h.rd.kept (fun k hk=>hx.block k (lt k hk)),fun k hk=> ?_⟩;obtain⟨o,h1,h2⟩:=h.blk k hk;exact⟨o,by rw[hx.block k (lt k hk)];exact h1,h2⟩
def TRow.mono(hx:Ext w w'){ks:List CE}{s:SV}{L:LL}(h:TRow w ks s L)(hb:∀k,s.blk ZC=ZA k->k<w.heap.size):TRow w' ks s L:=by
 unfold TRow at h ⊢;split
 next hk=>rw[hk]at h;obtain⟨ins,h1,h2,h3⟩:=h;exact⟨ins,h1,h2.kept (fun k hk=>hx.block k (hb k hk)),fun i row x hr hi=>(h3 i row x hr hi).mono hx⟩
 .rename_i hk;rcases cH ks with⟨_,h1⟩|⟨_,h1⟩
  .exact ai h1 hk
  .rw[h1]at h;exact h.kept (fun k hk=>hx.block k (hb k hk))
def nV(hx:Ext w w'){u:Value}(h:xG w k xs u r):xG w' k xs u r:=by
 cases k with
 |sl ks ty=>obtain⟨L,s,h1,h2,h3,h4,h5,h6⟩:=h;exact⟨L,s,h1,h2,h3,h4.mono hx h6,h5,fun k hk=>nr (h6 k hk) hx.size⟩
 |el ks ty=>obtain⟨row,p,h1,h2,h3,h4,h5⟩:=h;refine⟨row,p,h1,h2,h3,nr h4 hx.size,fun c u hu=> ?_⟩;rw[World.cell?_of_block (a:=p.add c) (hx.block _ (by unfold Addr.add;split<;>exact h4))];exact h5 c u hu
 |rl ks ty L=>obtain⟨h1,h2,s,h3,h4,h5,h6⟩:=h;exact⟨h1,h2,s,h3,h4,h5.mono hx h6,fun k hk=>nr (h6 k hk) hx.size⟩
 |_=>exact h
def lR{w':World}(hx:Ext w w'):∀{ks:List CK} {xs r:List Dt} {us:List Value},lz w ks xs us r->lz w' ks xs us r
 |[],_,_,_,h=>h
 |k::ks,xs,r,us,h=>by obtain⟨u,Su,r',h1,h2,h3⟩:=h;exact⟨u,Su,r',h1,nV hx h2,lR hx h3⟩
def Lens(xs:List Dt):Prop:=∀L,Dt.l L∈xs->L.length<=maxLen
def Lens.tail{d:Dt}(h:Lens (d::xs)):Lens xs:=fun L hL=>h L (cR _ hL)
def zw:CK->Bool
 |.sl ks _=>!di ks Dn
 |_=>ZB
def acl(hv:zw k=ZB)(h:LQ k xs r)(hl:Lens xs)(w:World):∃w' u,Ext w w'/\xG w' k xs u r/\Lens r:=by
 cases k with
 |int k=>obtain⟨x,rfl,hx⟩:=h;exact⟨w,_,.refl w,⟨x,rfl,rfl,hx⟩,hl.tail⟩
 |bool=>obtain⟨b,rfl⟩:=h;exact⟨w,_,.refl w,⟨b,rfl,rfl⟩,hl.tail⟩
 |fn g=>exact⟨w,_,.refl w,⟨h,rfl⟩,by rw[<-show xs=r from h];exact hl⟩
 |p k z=>exact⟨w,_,.refl w,⟨h,rfl⟩,by rw[<-show xs=r from h];exact hl⟩
 |nf=>exact⟨w,_,.refl w,⟨h,rfl⟩,by rw[<-show xs=r from h];exact hl⟩
 |any=>exact⟨w,Go.undef,.refl w,h,by rw[<-show xs=r from h];exact hl⟩
 |el ks ty=>obtain⟨row,rfl,AW⟩:=h;refine⟨w.alloc (.cells (flat ks [row]).toArray ty),.pointer (ZA ⟨w.heap.size,0,ZE⟩),(Ext.refl w).alloc _,⟨row,_,rfl,rfl,AW,fP w _,fun c u hu=> ?_⟩,hl.tail⟩;have:(⟨w.heap.size,0,ZE⟩:Addr).add c=⟨w.heap.size,c,ZE⟩:=XV;rw[this,kW (heap_alloc_new w _)];exact hu
 |rl ks ty L=>
   obtain⟨rfl,Aj⟩:=h;obtain⟨_,hL,hp,DO⟩:=yR (U:=⟨fun _=>0,fun _=>ZC,fun _=>[]⟩) Aj;have hT:∀w' s,RdRow w' ks.length s (flat ks L)->TRow w' ks s L:=fun w' s h=>by unfold TRow;rw[DO];exact h
   refine⟨w.alloc (.cells (flat ks L).toArray ty),(SV.mk (ZA ⟨w.heap.size,0,ZE⟩) L.length L.length []).v,(Ext.refl w).alloc _,⟨rfl,Aj,⟨ZA ⟨w.heap.size,0,ZE⟩,L.length,L.length,[]⟩,rfl,rfl,hT _ _ ⟨bw hL.row,ZK _,hL.len,fun h=>Xo,fun a ha i u hu=> ?_⟩,fun k hk=> ?_⟩,hl⟩
   .cases ha;have:(⟨w.heap.size,0,ZE⟩:Addr).add i=⟨w.heap.size,i,ZE⟩:=XV;rw[this,kW (heap_alloc_new w _)];exact hu
   .have hk:=ay hk;simp only[SV.v,Value.ownBlock,bo]at hk;subst hk;exact fP w _
 |sl ks ty=>
   obtain⟨L,rfl,hL⟩:=h;have AZ:L.length<=maxLen:=hl L bW;have hT:∀w' s,RdRow w' ks.length s (flat ks L)->TRow w' ks s L:=fun w' s h=>by
    unfold TRow;rcases cH ks with⟨h1,_⟩|⟨_,h1⟩
    .rw[h1]at hv;cases hv
    .rw[h1];exact h
   refine⟨w.alloc (.cells (flat ks L).toArray ty),(SV.mk (ZA ⟨w.heap.size,0,ZE⟩) L.length L.length []).v,(Ext.refl w).alloc _,⟨L,⟨ZA ⟨w.heap.size,0,ZE⟩,L.length,L.length,[]⟩,rfl,rfl,rfl,hT _ _ ⟨bw hL,ZK _,AZ,fun h=>Xo,fun a ha i u hu=> ?_⟩,⟨hL,AZ⟩,fun k hk=> ?_⟩,hl.tail⟩
   .cases ha;have:(⟨w.heap.size,0,ZE⟩:Addr).add i=⟨w.heap.size,i,ZE⟩:=XV;rw[this,kW (heap_alloc_new w _)];exact hu
   .have hk:=ay hk;simp only[SV.v,Value.ownBlock,bo]at hk;subst hk;exact fP w _
def qN:∀{ks:List CK} {xs r:List Dt},ks.all zw=ZB->PS ks xs r->Lens xs->∀(w:World),∃w' us,Ext w w'/\lz w' ks xs us r/\Lens r
 |[],xs,r,_,h,hl,w=>⟨w,[],.refl w,⟨h,rfl⟩,by rw[<-show xs=r from h];exact hl⟩
 |k::ks,xs,r,hv,h,hl,w=>by simp only[YX,ne]at hv;obtain⟨r',h1,h2⟩:=h;obtain⟨w1,u,e1,g1,l1⟩:=acl hv.1 h1 hl w;obtain⟨w2,us,e2,g2,l2⟩:=qN hv.2 h2 l1 w1;exact⟨w2,u::us,e1.trans e2,⟨u,us,r',rfl,nV e2 g1,g2⟩,l2⟩
def oA(ss:List Sh):Bool:=ss.all fun s=>s.cks.all zw
def kY:∀{ss:List Sh} {xs:List Dt},oA ss=ZB->QJ ss xs->Lens xs->∀(w:World),∃w' vals,Ext w w'/\nB w' ss xs vals
 |[],xs,_,h,_,w=>⟨w,[],.refl w,h,rfl⟩
 |.one k::ss,xs,hv,h,hl,w=>by simp only[oA,YX,ne,Sh.cks,List.all_nil,Bool.and_true]at hv;obtain⟨r,⟨r1,h1,h2⟩,h3⟩:=h;cases h2;obtain⟨w1,u,e1,g1,l1⟩:=acl hv.1 h1 hl w;obtain⟨w2,us,e2,g2⟩:=kY (ss:=ss) hv.2 h3 l1 w1;exact⟨w2,u::us,e1.trans e2,u,us,_,rfl,nV e2 g1,g2⟩
 |.agg ks::ss,xs,hv,h,hl,w=>by simp only[oA,YX,ne,Sh.cks,List.all_nil,Bool.and_true]at hv;obtain⟨r,h1,h3⟩:=h;obtain⟨w1,u,e1,g1,l1⟩:=qN hv.1 h1 hl w;obtain⟨w2,us,e2,g2⟩:=kY (ss:=ss) hv.2 h3 l1 w1;exact⟨w2,_,e1.trans e2,u,us,_,rfl,lR e2 g1,g2⟩
 |.ptr ks::ss,xs,hv,h,hl,w=>by simp only[oA,YX,ne,Sh.cks,List.all_nil,Bool.and_true]at hv;obtain⟨r,h1,h3⟩:=h;obtain⟨w1,u,e1,g1,l1⟩:=qN hv.1 h1 hl w;have e2:Ext w1 (w1.alloc (.cells u.toArray 0)):=(Ext.refl w1).alloc _;obtain⟨w3,us,e3,g3⟩:=kY (ss:=ss) hv.2 h3 l1 (w1.alloc (.cells u.toArray 0));have As:w1.heap.size<(w1.alloc (.cells u.toArray 0)).heap.size:=fP w1 _;refine⟨w3,_,e1.trans (e2.trans e3),w1.heap.size,u,us,_,rfl,lR (e2.trans e3) g1,nr As e3.size,fun o v ho=> ?_,g3⟩;rw[World.cell?_of_block (a:=⟨w1.heap.size,o,ZE⟩) (e3.block _ As),kW (heap_alloc_new w1 _)];exact ho
def sL:∀{ss:List Sh} {xs:List Dt},(ss.all fun s=>s.cks.all fun k=>!k.isSl)=ZB->QJ ss xs->Lens xs
 |[],xs,_,h=>by cases h;intro L hL;cases hL
 |s::ss,xs,hk,h=>by
   simp only[YX,ne]at hk;obtain⟨r,h1,h2⟩:=h;have ih:=sL hk.2 h2;have key:∀(ks:List CK) (xs r:List Dt),ks.all (fun k=>!k.isSl)=ZB->PS ks xs r->Lens r->Lens xs:=by
    intro ks
    induction ks with
    |nil=>intro xs r _ h hl;cases h;exact hl
    |cons k ks ihk=>
      intro xs r hk h hl;simp only[YX,ne]at hk;obtain⟨r',h1,h2⟩:=h;have l2:=ihk r' r hk.2 h2 hl;cases k with
      |int k=>
        obtain⟨x,rfl,_⟩:=h1;intro L hL;rcases YS.1 hL with e|hL
        .cases e
        .exact l2 L hL
      |bool=>
        obtain⟨x,rfl⟩:=h1;intro L hL;rcases YS.1 hL with e|hL
        .cases e
        .exact l2 L hL
      |sl ks ty=>simp[CK.isSl]at hk
      |rl ks ty L=>rw[h1.1];exact l2
      |el ks ty=>
        obtain⟨row,rfl,_⟩:=h1;intro L hL;rcases YS.1 hL with e|hL
        .cases e;simp[maxLen]
        .exact l2 L hL
      |_=>rw[show xs=r' from h1];exact l2
   exact key _ xs r hk.1 h1 ih
def wH{ds:List Dt}{v0:Nat}:∀(ks:List CK) (n:Nat),gJ ks (ds.drop n)->eqs U ds v0 n ks->(∀(m:Nat) k,ks[m]? =ZA (.int k)->Ae k (U.i (v0+(n+m)))=ZB)/\∀(m:Nat) k ty,ks[m]? =ZA (.sl k ty)->RowsIn k (U.l (v0+(n+m)))
 |[],n,_,_=>⟨fun m k h=>by simp at h,fun m k ty h=>by simp at h⟩
 |k::ks,n,h,he=>by
   cases hd:ds.drop n with
   |nil=>rw[hd]at h;cases k<;>exact h.elim
   |cons d r=>
     rw[hd]at h;obtain⟨d1,d2⟩:=fk hd;have Mo:gJ ks r/\eqs U ds v0 (n+1) ks/\(∀k',k=.int k'->Ae k' (U.i (v0+n))=ZB)/\∀k' ty,k=.sl k' ty->RowsIn k' (U.l (v0+n)):=by
      cases k with
      |int k=>
        cases d with
        |z x=>exact⟨h.2,he.2,fun k' e=>(by cases e;rw[he.1,QK d1];exact h.1),fun k' ty e=>(by cases e)⟩
        |l L=>exact h.elim
      |sl ks0 ty=>
        cases d with
        |z x=>exact h.elim
        |l L=>exact⟨h.2,he.2,fun k' e=>(by cases e),fun k' ty e=>(by cases e;rw[he.1,UF d1];exact h.1)⟩
      |bool=>exact⟨h,he.2,fun k' e=>(by cases e),fun k' ty e=>(by cases e)⟩
      |_=>exact⟨h,he,fun k' e=>(by cases e),fun k' ty e=>(by cases e)⟩
     obtain⟨m1,m2,m3,m4⟩:=Mo;obtain⟨i1,i2⟩:=wH ks (n+1) (by rw[d2];exact m1) m2;refine⟨fun m k' hm=> ?_,fun m k' ty hm=> ?_⟩
     .cases m with
      |zero=>simp only[cD,bo]at hm;exact m3 k' hm
      |succ m=>have:=i1 m k' XT;rwa [show n+(m+1)=n+1+m by omega]
     .cases m with
      |zero=>simp only[cD,bo]at hm;exact m4 k' ty hm
      |succ m=>have:=i2 m k' ty XT;rwa [show n+(m+1)=n+1+m by omega]
def T9(args res:List Sh)(pre:List Dt->Prop):Prop:=(args.all fun a=>a.cks.all fun k=>!k.isSl)=ZB\/((∀xs,pre xs->Lens xs)/\oA args=ZB)\/(res.all fun a=>a.cks.all fun k=>match k with|.int _=>ZC|.sl _ _=>ZC|_=>ZB)=ZB
def aiw(h:(ss.all fun a=>a.cks.all fun k=>!k.isSl)=ZB):oA ss=ZB:=by unfold oA;rw[CB]at h ⊢;intro s hs;have:=h s hs;rw[CB]at this ⊢;intro k hk;have:=this k hk;cases k<;>first|rfl|(simp[CK.isSl]at this)
def SmOk.of_calls{s:Sm}(hl:T9 s.args s.res (sp.pre s.key))
  (h:∀xs vals w,nB w s.args xs vals->sp.pre s.key xs->sp.hw w->
   (∃v w',(callFunc s.f vals.toArray).run P w=.ok (.value v) w'/\RetOk s.res s.tup w w' (sp.F s.key xs) v)\/((callFunc s.f vals.toArray).run P w=.ok (.enter s.f vals.toArray) w/\Calls P s.f vals.toArray w fun e w'=>∃v,e=.returned v/\RetOk s.res s.tup w w' (sp.F s.key xs) v)) (hn:s.inp=ZE:=by rfl):SmOk P sp s:=by
 refine⟨fun _=>h,fun ks ty e=>(by rw[hn]at e;cases e),fun xs De CJ U v0 he=> ?_⟩;have AZ:(Lens xs/\oA s.args=ZB)\/((∀(n:Nat) k,s.ks[n]? =ZA (.int k)->Ae k (U.i (v0+n))=ZB)/\(∀(n:Nat) ks ty,s.ks[n]? =ZA (.sl ks ty)->RowsIn ks (U.l (v0+n)))):=by
  rcases hl with hl|hl|hl
  .exact .inl ⟨sL hl De,aiw hl⟩
  .exact .inl ⟨hl.1 xs CJ,hl.2⟩
  .right;have key:∀k∈s.ks,(match k with|.int _=>ZC|.sl _ _=>ZC|_=>ZB)=ZB:=fun k hk=>by
    obtain⟨a,ha,hk⟩:=List.mem_flatMap.1 hk;exact CB.1 (CB.1 hl a ha) k hk
   exact⟨fun n k hk=>(by have:=key _ (fI hk);cases this),fun n ks ty hk=>(by have:=key _ (fI hk);cases this)⟩
 rcases AZ with⟨AZ,Au⟩|Q8
 rotate_left
 .exact Q8
 obtain⟨wi,hwi⟩:=sp.hi;obtain⟨w,vals,hxi,hw⟩:=kY Au De AZ wi;have hres:gJ (s.res.flatMap (·.cks)) (sp.F s.key xs):=by
  rcases h xs vals w hw CJ (sp.hx _ _ hxi hwi)with⟨v,w',_,hr⟩|⟨_,hc⟩
  .exact hr.rng
  .obtain⟨e,w',_,⟨v,_,hr⟩,_⟩:=hc [];exact hr.rng
 have Ic:eqs U (sp.F s.key xs) v0 0 (s.res.flatMap (·.cks)):=he;have:=wH (U:=U) (ds:=sp.F s.key xs) (v0:=v0) (s.res.flatMap (·.cks)) 0 (by simpa using hres) Ic;simpa[Sm.ks]using this
def aS:List VK->(List Dt->Prop)->Prop
 |[],p=>p []
 |.int k::l,p=>∀x,Ae k x=ZB->aS l fun r=>p (.z x::r)
 |.bool::l,p=>∀b:Bool,aS l fun r=>p (.z (AD b)::r)
 |.list ks::l,p=>∀L,RowsIn ks L->aS l fun r=>p (.l L::r)
def iH:∀{l:List VK} {p:List Dt->Prop},aS l p->∀xs,okDs l xs->p xs
 |[],p,h,[],_=>h
 |.int k::l,p,h,.z x::r,ho=>iH (h x ho.1) r ho.2
 |.bool::l,p,h,.z x::r,ho=>by
   rcases ho.1 with rfl|rfl
   .exact iH (h ZC) r ho.2
   .exact iH (h ZB) r ho.2
 |.list ks::l,p,h,.l L::r,ho=>iH (h L ho.1) r ho.2
 |[],p,h,_::_,ho=>ho.elim
 |.int _::_,p,h,[],ho=>ho.elim
 |.bool::_,p,h,[],ho=>ho.elim
 |.list _::_,p,h,[],ho=>ho.elim
 |.int _::_,p,h,.l _::_,ho=>ho.1.elim
 |.bool::_,p,h,.l _::_,ho=>ho.1.elim
 |.list _::_,p,h,.z _::_,ho=>ho.1.elim
def QD:List Sm->Bool
 |[]=>ZB
 |s::l=>(l.all fun x=>!ZJ x.key s.key)&&QD l
def ahJ:∀{l:List Sm},QD l=ZB->∀s∈l,∀s'∈l,s.key=s'.key->s=s'
 |[],_,s,hs,_,_,_=>by cases hs
 |x::l,h,s,hs,s',Bj,he=>by
   simp only[QD,ne,CB,ZO]at h;rcases YS.1 hs with rfl|hs<;>rcases YS.1 Bj with rfl|Bj
   .rfl
   .have:=h.1 s' (by assumption);rw[he]at this;simp at this
   .have:=h.1 s (by assumption);rw[he]at this;simp at this
   .exact ahJ h.2 s (by assumption) s' (by assumption) he
def zm(ss:List Sh):List V×List VK×List RowOb×List (List C):=Cs 0 0 0 ss
def au2(hints:List (Nat×List Pl)):Option E:=match ap 999996 hints with
 |some [.gone l,.gone n,.gone c,.gone z]=>ZA (.eq (.get (.g l) (.w n) c) (.p z))
 |_=>ZE
def WU(hints:List (Nat×List Pl))(k:Kw->Tr)(kw:Kw):Tr:=match au2 hints with
 |some e=>AK e (fun b kw=>if b then k kw else .stuck 261) kw
 |none=>k kw
def aeW{U:Env}{G:Env->E->Prop}{I:Nat->List Dt->Prop}{k:Kw->Tr}{kw:Kw}(h:(WU hints k kw).holds sp G U I)(hg:Good sp sm U kw):∃An,(k An).holds sp G U I/\Good sp sm U An/\An.vk=kw.vk:=by
 unfold WU at h;split at h
 .obtain⟨An,h1,h2,h3,_⟩:=aO _ _ _ h hg;split at h1
  .exact⟨An,h1,h2,h3⟩
  .exact h1.elim
 .exact⟨kw,h,hg,rfl⟩
def amb(ty:List (Nat×TI))(sm:List Sm)(fns:List (Nat×Func×List (Nat×List Pl)×List (Nat×List Pl)))(hints cuts:List (Nat×List Pl))(fuel:Nat)(fn:Func)(args res:List Sh):Tr:=WU hints (Nr ⟨ty,sm,res,(zm args).2.2.2,hints,cuts,fns⟩ fuel fn (zm args).1 ((zm args).2.2.1.map .row)) ⟨if(ap 999997 hints).isSome then[(.tt ZB,ZB)]else[],[],(zm args).2.1,0⟩
def cg(ty:List (Nat×TI))(sm:List Sm)(fns:List (Nat×Func×List (Nat×List Pl)×List (Nat×List Pl)))(hints cuts:List (Nat×List Pl))(fuel:Nat)(fn:Func)(args res:List Sh)(tup:Bool)(vks:List VK)(t:Tr):Prop:=
 (amb ty sm fns hints cuts fuel fn args res,(zm args).2.1,t.sc vks.length&&(J1 args&&((ZJ res.length 1 == !tup)&&(QD sm&&(!(fn.name== "runtime.NumGoroutine") &&!fn.body.isNone)))))=(t,vks,ZB)
def E4{ty:List (Nat×TI)}{args:List Sh}{t:Tr}
  (h:(amb ty sm fns hints cuts fuel fn args res,(zm args).2.1,t.sc vks.length&&(J1 args&&((ZJ res.length 1 == !tup)&&(QD sm&&(!(fn.name== "runtime.NumGoroutine") &&!fn.body.isNone)))))=(t,vks,ZB)):cg ty sm fns hints cuts fuel fn args res tup vks t:=h
abbrev Cn(t:Tr)(sp:Spec)(vks:List VK)(xs:List Dt)(F:List Dt->List Dt):Prop:=∀U,varsD U 0 vks=xs->t.asks sp (fun U e=>e.D U=F xs) U fun _ _=>False
def EZ:∀p∈([]:List (Nat×Func×List (Nat×List Pl)×List (Nat×List Pl))),P.funcs[p.1]? =ZA p.2.1:=fun _ h=>by cases h
def Gw{x:List (Nat×List Pl)×List (Nat×List Pl)}{l:List (Nat×Func×List (Nat×List Pl)×List (Nat×List Pl))}(h:P.funcs[g]? =ZA fn)(h':∀p∈l,P.funcs[p.1]? =ZA p.2.1):∀p∈(g,fn,x)::l,P.funcs[p.1]? =ZA p.2.1:=List.forall_mem_cons.2 ⟨h,h'⟩
def xp{Pd:Spec}{f:Nat}{args:List Sh}{ty:List (Nat×TI)}{t:Tr}{F:List Dt->List Dt}{pre:List Dt->Prop}(hm:P.follows .mixedOrders=ZB)(hT:∀t i,(t,i)∈ty->TIok P t i)(hS:∀s∈sm,SmOk P Pd s)(hf:P.funcs[f]? =ZA fn)
  (Bx:∀p∈fns,P.funcs[p.1]? =ZA p.2.1) (ht:cg ty sm fns hints cuts fuel fn args res tup vks t)
  (h:aS vks fun xs=>pre xs->∀U,varsD U 0 vks=xs->t.asks Pd (fun U e=>e.D U=F xs) U fun _ _=>False) (xs:List Dt) (vals:List Value) (w:World) (hw:nB w args xs vals) (CJ:pre xs) (OB:Pd.hw w):
  (callFunc f vals.toArray).run P w=.ok (.enter f vals.toArray) w/\Calls P f vals.toArray w fun e w'=>∃v,e=.returned v/\RetOk res tup w w' (F xs) v:=by
 simp only[cg,Prod.mk.injEq]at ht;obtain⟨ht1,hv1,P8⟩:=ht;simp only[ne,cQ,ZO]at P8;obtain⟨hsc,Aj,htup,AR,HS,HM⟩:=P8;refine⟨dM hf HS HM _ w,?_⟩;obtain⟨svs,JF,E0,Qa,GJ⟩:=uC Aj hw 0 0 0;have IG:(Cs 0 0 0 args).2.1=vks:=hv1;rw[IG]at GJ;let U0:Env:=Env.put ⟨fun _=>0,fun _=>ZC,fun _=>[]⟩ 0 xs;have RQ:∀U',Ag vks.length U0 U'->varsD U' 0 vks=xs:=fun U' ha=>mD GJ.ok (by rw[bP];exact ha);obtain⟨U',h1,h2⟩:=adn (G:=fun U e=>e.D U=F xs) t vks.length U0 (fun _ _=>False) hsc (fun U' ha=>iH h xs GJ.ok CJ U' (RQ U' ha));let j:J:=⟨fun _=>ZE,fun id=>svs[id]?,fun b=>JF[b]?,⟨fun _=>ZE,UM w⟩⟩
 obtain⟨a1,a2⟩:=GJ.at' U' j (RQ U' h1) (fun i s hi=>by rw[bP];exact hi);obtain⟨a3,a4⟩:=a1 (fun i k hi=>by rw[bP];exact hi);rw[<-ht1]at h2;have RR:Vk U' vks:=by
  have hd:=RQ U' h1;have ho:=GJ.ok;have key:∀(l:List VK) (n:Nat),okDs l (varsD U' n l)->(∀(i:Nat) k,l[i]? =ZA (.int k)->Ae k (U'.i (n+i))=ZB)/\∀(i:Nat) ks,l[i]? =ZA (.list ks)->RowsIn ks (U'.l (n+i)):=by
   intro l
   induction l with
   |nil=>intro n _;exact⟨fun i k h=>by simp at h,fun i k h=>by simp at h⟩
   |cons x l ih=>
     intro n h;obtain⟨i1,i2⟩:=ih (n+1) h.2;refine⟨fun i k hk=> ?_,fun i ks hk=> ?_⟩
     .cases i with
      |zero=>simp at hk;subst hk;exact h.1
      |succ i=>have:=i1 i k (by simpa using hk);rwa [show n+(i+1)=n+1+i by omega]
     .cases i with
      |zero=>simp at hk;subst hk;exact h.1
      |succ i=>have:=i2 i ks (by simpa using hk);rwa [show n+(i+1)=n+1+i by omega]
  obtain⟨k1,k2⟩:=key _ 0 (by rw[hd];exact ho);exact⟨fun i k hk=>by have:=k1 i k hk;rwa [bP]at this,fun i k hk=>by have:=k2 i k hk;rwa [bP]at this⟩
 obtain⟨An,h2,CP,_⟩:=aeW h2 ⟨fun p hp=>(by
   split at hp
   .rw[dA.1 hp];rfl
   .cases hp),by rw[hv1];exact RR,fun p hp=>Ym⟩
 refine aqZ (hF:=Bx) (U:=U') (j:=j) (kw:=An) (cx:=⟨ty,sm,res,(zm args).2.2.2,hints,cuts,fns⟩) hm hT hS (ahJ AR) hf a3 Qa.symm htup h2 CP w ⟨fun b ob hb=> ?_,fun b hb=> ?_,fun b=>rfl,rfl,fun b s hs=> ?_,fun b cs hb=> ?_⟩ OB
 .rw[js,Ay]at hb;obtain⟨q,hq,rfl⟩:=hb;have As:b<svs.length:=by rw[GJ.len];exact(cZ.1 hq).1
  obtain⟨g1,g2⟩:=a2 b svs[b] q (AH As) hq;exact⟨q,svs[b],rfl,g1,AH As,g2 _⟩
 .rw[List.length_map]at hb;exact cn (by rw[GJ.len];exact hb)
 .exact GJ.zz s (fI hs)
 .exact a4 b cs hb
def Vn:∀s∈([]:List Sm),SmOk P sp s:=fun _ h=>by cases h
def EJ{s:Sm}{l:List Sm}(h:SmOk P sp s)(h':∀s∈l,SmOk P sp s):∀x∈s::l,SmOk P sp x:=List.forall_mem_cons.2 ⟨h,h'⟩
def TJ{Pd:Spec}{s:Sm}{ty:List (Nat×TI)}{t:Tr}{F:List Dt->List Dt}{pre:List Dt->Prop}(hF:sp.F s.key=F)(hP:sp.pre s.key=pre)(hm:P.follows .mixedOrders=ZB)(hT:∀t i,(t,i)∈ty->TIok P t i)(hS:∀s∈sm,SmOk P Pd s)(hf:P.funcs[s.f]? =ZA fn)(Bx:∀p∈fns,P.funcs[p.1]? =ZA p.2.1)(ht:cg ty sm fns hints cuts fuel fn s.args s.res s.tup vks t)(hl:T9 s.args s.res pre)(h:aS vks fun xs=>pre xs->∀U,varsD U 0 vks=xs->t.asks Pd (fun U e=>e.D U=F xs) U fun _ _=>False)(hn:s.inp=ZE:=by rfl)(hW:∀w,sp.hw w->Pd.hw w:=by exact fun _ _=>trivial):SmOk P sp s:=
 SmOk.of_calls (by rw[hP];exact hl) (fun xs vals w hw CJ OB=>.inr (by rw[hF];rw[hP]at CJ;exact xp hm hT hS hf Bx ht h xs vals w hw CJ (hW w OB))) hn
def SmOk.pureW{s:Sm}{F:List Dt->List Dt}(hF:sp.F s.key=F)(hl:(s.args.all fun a=>a.cks.all fun k=>!k.isSl)=ZB)(hr:((s.res.flatMap (·.cks)).filter CK.isSl)=[])(h:∀xs vals w,nB w s.args xs vals->sp.hw w->∃X,((callFunc s.f vals.toArray).run P w=.ok (.value X) w\/((callFunc s.f vals.toArray).run P w=.ok (.enter s.f vals.toArray) w/\Calls P s.f vals.toArray w fun e w'=>e=.returned X/\Ext w w'))/\gJ (s.res.flatMap (·.cks)) (F xs)/\∀(U:Env) v0 nid j,eqs U (F xs) v0 0 (s.res.flatMap (·.cks))->(gi s.res s.tup v0 nid).den U j=ZA X)(hn:s.inp=ZE:=by rfl):SmOk P sp s:=by
 refine SmOk.of_calls (.inl hl) (fun xs vals w hw _ hh=> ?_) hn;obtain⟨X,h1,h2,h3⟩:=h xs vals w hw hh;rw[hF];have ret:∀w',Ext w w'->RetOk s.res s.tup w w' (F xs) X:=fun w' hx=>⟨hx,h2,[],by rw[hr];rfl,fun U v0 nid j he _=>h3 U v0 nid j he,fun U v0 _ i u r hu=>by simp at hu,fun i i' u u' k hu=>(by simp at hu),fun u hu=>(by cases hu)⟩
 rcases h1 with h1|⟨h1,hc⟩
 .exact .inl ⟨X,w,h1,ret w (.refl w)⟩
 .exact .inr ⟨h1,hc.mono fun e w' he=>⟨X,he.1,ret w' he.2⟩⟩
def SmOk.pure{s:Sm}{F:List Dt->List Dt}(hF:sp.F s.key=F)(hl:(s.args.all fun a=>a.cks.all fun k=>!k.isSl)=ZB)(hr:((s.res.flatMap (·.cks)).filter CK.isSl)=[])(h:∀xs vals w,nB w s.args xs vals->∃X,((callFunc s.f vals.toArray).run P w=.ok (.value X) w\/((callFunc s.f vals.toArray).run P w=.ok (.enter s.f vals.toArray) w/\Calls P s.f vals.toArray w fun e w'=>e=.returned X/\Ext w w'))/\gJ (s.res.flatMap (·.cks)) (F xs)/\∀(U:Env) v0 nid j,eqs U (F xs) v0 0 (s.res.flatMap (·.cks))->(gi s.res s.tup v0 nid).den U j=ZA X)(hn:s.inp=ZE:=by rfl):SmOk P sp s:=
 SmOk.pureW hF hl hr (fun xs vals w hw _=>h xs vals w hw) hn
def fq:Value->Bool
 |.int k z=>Ae k z
 |_=>ZB
def fh:Value->Bool
 |.agg cs=>cs.toList.all fq
 |v=>fq v
def fU:Value->Bool
 |.tuple vs=>vs.toList.all fh
 |v=>fh v
def RetOk.says(h:RetOk [.one .bool] ZC w w' [.z 1] v):v=.bool ZB:=by obtain⟨svs,_,h1,_⟩:=h.svs;have:=h1 ⟨fun _=>0,fun _=>ZB,fun _=>[]⟩ 0 0 ⟨fun _=>ZE,fun id=>svs[id]?,fun _=>ZE,Gh.zero⟩ ⟨rfl,trivial⟩ (fun i u hi=>by rw[bP];exact hi);cases this;rfl
@[simp] theorem b2i_eq_iff {a b:Bool}:(AD a=AD b)=(a=b):=propext ⟨nW,fun h=>by rw[h]⟩
@[simp] theorem b2i_one {a:Bool}:(AD a==1)=a:=oE a
def zb{a:Bool}(h:a=b):[Dt.z (AD a)]=[Dt.z (AD b)]:=by rw[h]
def zi{a b:Int}(h:a=b):[Dt.z a]=[Dt.z b]:=by rw[h]
def E.vs(n:Nat):Nat->E->E
 |0,t=>t
 |k+1,t=>.cons (.w n) (E.vs (n+1) k t)
def S1:=aI (@List.getElem?_cons_zero Dt) (aI (@List.getElem?_cons_succ Dt) (aI (@List.cons_append Dt) (aI (@List.nil_append Dt) (aI (@List.cons_append CK) (aI (@List.nil_append CK) (aI bP (aI ZR (aI and_true (aI true_and @b2i_one)))))))))
def kdN:Nat->Option IntKind
 |0=>ZA .i8
 |1=>ZA .u64
 |2=>ZA .i64
 |3=>ZA .u8
 |4=>ZA .i32
 |5=>ZA .u32
 |_=>ZE
def kN:Nat->Nat->List CE
 |0,_=>[]
 |n+1,m=>kdN (m % 10)::kN n (m / 10)
def zN:Nat->Nat->List C
 |0,_=>[]
 |n+1,m=>(match kdN (m % 10)with
   |some k=>.int k (.p 0)
   |none=>.bool (.tt ZC))::zN n (m / 10)
def E.zs:List Int->E->E
 |[],t=>t
 |z::l,t=>.cons (.p z) (E.zs l t)
def E.zr:Nat->E->E
 |0,t=>t
 |n+1,t=>.cons (.p 0) (E.zr n t)
def E.rgs(d x:E):Nat->Nat->E->E->E->E
 |_,_,_,.nil,t=>t
 |n+1,r,.nil,o,t=>E.rgs d x n (r+1) x o t
 |n+1,r,.cons y ys,.cons o os,t=>.cons (.ite (.eq d (.p r)) y o) (E.rgs d x n r ys os t)
 |_,_,_,_,t=>t
def E.rg(d x o t:E):E:=E.rgs d x 120 0 x o t
def E.pv(n:Nat):List Int->E->E
 |[],t=>t
 |z::l,t=>.and (.eq (.w n) (.p z)) (E.pv (n-1) l t)
def E.gs(l i:E)(c:Nat):Nat->E->E
 |0,t=>t
 |k+1,t=>.cons (.get l i c) (E.gs l i (c+1) k t)
def E.ins(l i t:E):E:=E.gs l i 0 4 (.j (.getb l i 4) (E.gs l i 5 4 t))
def E.sv(a:Nat):Nat->E
 |0=>.nil
 |k+1=>.cons (.w a) (E.sv (a+9) k)
def E.tn(i:E)(a:Nat):Nat->E->E
 |0,t=>t
 |k+1,t=>.cons (.nth i (E.sv a 11)) (E.tn i (a+1) k t)
def E.sg(l i:E)(c:Nat):Nat->E
 |0=>.nil
 |k+1=>.cons (.get l i c) (E.sg l i (c+9) k)
def E.tg(e l i:E)(c:Nat):Nat->E->E
 |0,t=>t
 |k+1,t=>.cons (.nth e (E.sg l i c 11)) (E.tg e l i (c+1) k t)
def E.iv(c:E)(a b:Nat):Nat->E->E
 |0,t=>t
 |k+1,t=>.cons (.ite c (.w a) (.w b)) (E.iv c (a+1) (b+1) k t)
def EqT(P:Program)(t:Nat)(z:List C):Prop:=(∀vs us,aL vs z->aL us z->∀w,(Op.equal t (.agg vs.toArray) (.agg us.toArray)).run P w=.ok (Dh vs us) w)/\P.eqGuardType P.depth t=ZC
def KyT(P:Program)(t:Nat)(z:List C):Prop:=∀vs,aL vs z->∀b w,(Instr.checkKey b 10000 t (.agg vs.toArray)).run P w=.ok () w
def B1{f:Nat->List C->Prop}:∀q∈([]:List (Nat×List C)),f q.1 q.2:=fun _ h=>by cases h
def DS{f:Nat->List C->Prop}{l:List (Nat×List C)}(h:f t z)(h':∀q∈l,f q.1 q.2):∀q∈(t,z)::l,f q.1 q.2:=List.forall_mem_cons.2 ⟨h,h'⟩
def aja{f:Nat->List C->Prop}{es:List (Nat×List C)}(he:∀q∈es,f q.1 q.2)(h:(!b||es.any fun q=>ZJ t q.1&&fD z q.2)=ZB)(hb:b=ZB):∃z',fD z z'=ZB/\f t z':=by rw[hb,Bool.not_true,Bool.false_or,List.any_eq_true]at h;obtain⟨q,hq,h⟩:=h;rw[ne]at h;obtain rfl:=Ak h.1;exact⟨q.2,h.2,he q hq⟩
def bl{l:List (Nat×TI)}{es ky:List (Nat×List C)}(he:∀q∈es,EqT P q.1 q.2)(hk:∀q∈ky,KyT P q.1 q.2)(h:(l.all fun p=>Nl P p.1 p.2&&((!p.2.eqok||es.any fun q=>ZJ p.1 q.1&&fD p.2.zero q.2)&&(!p.2.keyok||ky.any fun q=>ZJ p.1 q.1&&fD p.2.zero q.2)))=ZB):∀t i,(t,i)∈l->TIok P t i:=fun t i hm=>by
 have h1:=CB.1 h (t,i) hm;rw[ne,ne]at h1;refine arw h1.1 (fun hb=> ?_) (fun hb=> ?_) (fun hb=> ?_)
 .obtain⟨z,hz,hE⟩:=aja he h1.2.1 hb;exact fun vs us hv hu=>hE.1 vs us (kl hz hv) (kl hz hu)
 .obtain⟨z,hz,hE⟩:=aja he h1.2.1 hb;exact hE.2
 .obtain⟨z,hz,hE⟩:=aja hk h1.2.2 hb;exact fun vs hv=>hE vs (kl hz hv)
def T0:List Dt->Prop:=fun _=>True
structure Cd where
 f:Nat
 a:List Sh
 r:List Sh
 F:List Dt->List Dt
 p:List Dt->Prop
def tp:List Sh->Bool
 |[_]=>ZC
 |_=>ZB
def Cd.m(c:Cd)(key:Nat):Sm:=⟨c.f,key,c.a,c.r,tp c.r⟩
def Cd.Ok(c:Cd)(P:Program):Prop:=∀{sp:Spec} {key:Nat},sp.F key=c.F->sp.pre key=c.p->SmOk P sp (c.m key)
def Kv:List Cd->Nat->Cd
 |[],_=>⟨0,[],[],fun _=>[],fun _=>True⟩
 |c::_,0=>c
 |_::l,n+1=>Kv l n
def Sp(l:List Cd):Spec:={F:=fun k=>(Kv l k).F,pre:=fun k=>(Kv l k).p}
def FV:Nat->List Cd->List Sm
 |_,[]=>[]
 |n,c::l=>c.m n::FV (n+1) l
def PE(P:Program)(l:List Cd):Prop:=∀(i:Nat) c,l[i]? =ZA c->c.Ok P
def AI:PE P []:=fun i c h=>by simp at h
def Am{c:Cd}{l:List Cd}(h:c.Ok P)(h':PE P l):PE P (c::l):=fun i d hd=>by
 cases i with
 |zero=>simp at hd;subst hd;exact h
 |succ i=>exact h' i d (by simpa using hd)
def ami:∀{l:List Cd} {i:Nat} {c:Cd},l[i]? =ZA c->Kv l i=c
 |[],_,_,h=>by simp at h
 |_::_,0,_,h=>by simpa[Kv]using h
 |_::l,i+1,_,h=>by rw[Kv];exact ami Xx
def amk{L:List Cd}:∀{l:List Cd} {n:Nat},(∀(i:Nat) c,l[i]? =ZA c->L[n+i]? =ZA c)->PE P l->∀s∈FV n l,SmOk P (Sp L) s
 |[],_,_,_,_,h=>by cases h
 |c::l,n,hL,h,s,hs=>by
   rcases YS.1 hs with rfl|hs
   .have e:Kv L n=c:=ami (hL 0 c rfl);exact h 0 c rfl (congrArg Cd.F e) (congrArg Cd.p e)
   .exact amk (fun i c hc=>by rw[ZU,Nat.add_comm 1];exact hL (i+1) c Yp) (fun i c hc=>h (i+1) c Yp) s hs
def Kx:(∀x,T0 x=True)/\(∀(l:List Cd) k,(Sp l).F k=(Kv l k).F)/\(∀(l:List Cd) k,(Sp l).pre k=(Kv l k).p)/\(∀c l,Kv (c::l) 0=c)/\∀c l n,Kv (c::l) (n+1)=Kv l n:=⟨fun _=>rfl,fun _ _=>rfl,fun _ _=>rfl,fun _ _=>rfl,fun _ _ _=>rfl⟩
def GD{c:Cd}{l:List Cd}{ty:List (Nat×TI)}(t:Tr)(vks:List VK)(hT:∀t i,(t,i)∈ty->TIok P t i)(hS:PE P l)(hf:P.funcs[c.f]? =ZA fn)(Bx:∀p∈fns,P.funcs[p.1]? =ZA p.2.1)(ht:cg ty (FV 0 l) fns hints cuts fuel fn c.a c.r (tp c.r) vks t)(h:aS vks fun xs=>c.p xs->∀U,varsD U 0 vks=xs->t.asks (Sp l) (fun U e=>e.D U=c.F xs) U fun _ _=>False)(hl:T9 c.a c.r c.p:=by exact .inl rfl)(hm:P.follows .mixedOrders=ZB:=by kernel_rfl)(hn:(c.m 0).inp=ZE:=by rfl):c.Ok P:=
 fun hF hP=>TJ (s:=c.m _) hF hP hm hT (amk (fun i c hc=>by rw[bP];exact hc) hS) hf Bx ht hl h hn
def AU{c:Cd}{l:List Cd}{ty:List (Nat×TI)}(t:Tr)(vks:List VK)(hT:∀t i,(t,i)∈ty->TIok P t i)(hS:PE P l)(hf:P.funcs[c.f]? =ZA fn)(h:aS vks fun xs=>c.p xs->∀U,varsD U 0 vks=xs->t.asks (Sp l) (fun U e=>e.D U=c.F xs) U fun _ _=>False)(ht:cg ty (FV 0 l) [] [] [] 200 fn c.a c.r (tp c.r) vks t:=by exact E4 (by kernel_rfl))(hl:T9 c.a c.r c.p:=by exact .inl rfl)(hm:P.follows .mixedOrders=ZB:=by kernel_rfl)(hn:(c.m 0).inp=ZE:=by rfl):c.Ok P:=
 GD t vks hT hS hf EZ ht h hl hm hn
def rdZ(k:Int->List Dt->List Dt):List Dt->List Dt
 |.z x::r=>k x r
 |_=>[]
def rdB(k:Bool->List Dt->List Dt):List Dt->List Dt
 |.z x::r=>k (x==1) r
 |_=>[]
def rdL(k:LL->List Dt->List Dt):List Dt->List Dt
 |.l x::r=>k x r
 |_=>[]
end
def LV:=aI @Dt.z.injEq (aI @Dt.l.injEq @b2i_eq_iff)
def AA:=aI @varsD.eq_1 (aI @varsD.eq_2 (aI @varD.eq_1 (aI @varD.eq_2 (aI @varD.eq_3 (aI (@List.cons.injEq Dt) (aI @and_true (aI @Dt.z.injEq (aI @Dt.l.injEq @b2i_eq_iff))))))))
def CC:TI:=⟨ZC,1,[.int .i64 (.p 0)],[],ZE,ZA .i64,ZC,ZC,ZE,8,ZC,ZE,ZC,0⟩
def fe:TI:=⟨ZC,1,[.int .u64 (.p 0)],[],ZE,ZA .u64,ZC,ZC,ZE,8,ZC,ZE,ZC,0⟩
def ic:TI:=⟨ZB,4,(zN 4 2211),[(0,39),(1,39),(2,2),(3,2)],ZE,ZE,ZC,ZC,ZE,32,ZC,ZE,ZC,0⟩
def WR:TI:=⟨ZB,2,[.int .u64 (.p 0),.int .u64 (.p 0)],[(0,39),(1,39)],ZE,ZE,ZC,ZC,ZE,16,ZC,ZE,ZC,0⟩
def WQ:TI:=⟨ZB,2,[.int .i64 (.p 0),.int .i64 (.p 0)],[(0,2),(1,2)],ZE,ZE,ZC,ZC,ZE,16,ZC,ZE,ZC,0⟩
def CZ:TI:=⟨ZC,1,[.int .i64 (.p 0)],[],ZE,ZA .i64,ZC,ZC,ZE,8,ZC,ZE,ZC,0⟩
def EK:TI:=⟨ZC,1,[.bool (.tt ZC)],[],ZE,ZE,ZC,ZB,ZE,1,ZC,ZE,ZC,0⟩
def fY:TI:=⟨ZC,1,[.int .i8 (.p 0)],[],ZE,ZA .i8,ZC,ZC,ZE,1,ZC,ZE,ZC,0⟩
def Ud:TI:=⟨ZC,1,[.int .u64 (.p 0)],[],ZE,ZA .u64,ZC,ZC,ZE,8,ZC,ZE,ZC,0⟩
def jr:TI:=⟨ZB,2,[.int .u64 (.p 0),.int .u64 (.p 0)],[(0,39),(1,39)],ZE,ZE,ZC,ZC,ZE,16,ZC,ZE,ZC,0⟩
def PI:TI:=⟨ZB,6,(zN 6 112211),[(0,46),(4,48)],ZE,ZE,ZC,ZC,ZE,48,ZC,ZE,ZC,0⟩
def qZ:TI:=⟨ZB,9,(zN 9 220090000),[(0,38),(1,38),(2,38),(3,38),(4,4),(5,38),(6,38),(7,3),(8,3)],ZE,ZE,ZB,ZC,ZE,24,ZC,ZE,ZC,0⟩
def Qt:TI:=⟨ZC,1,[.int .i64 (.p 0)],[],ZE,ZA .i64,ZC,ZC,ZE,8,ZC,ZE,ZC,0⟩
def eU:TI:=⟨ZB,6,(zN 6 112211),[(0,46),(4,48)],ZE,ZE,ZB,ZC,ZE,48,ZC,ZE,ZC,0⟩
def rh:TI:=⟨ZB,9,(zN 9 221122110),[(0,38),(1,50),(7,3),(8,3)],ZE,ZE,ZB,ZC,ZE,72,ZC,ZE,ZC,0⟩
def rb:TI:=⟨ZB,99,(zN 99 221122110221122110221122110221122110221122110221122110221122110221122110221122110221122110221122110),[],ZA (11,52),ZE,ZC,ZC,ZE,792,ZC,ZE,ZC,0⟩
def ra:TI:=⟨ZB,72,(zN 72 221122110221122110221122110221122110221122110221122110221122110221122110),[],ZA (8,52),ZE,ZC,ZC,ZE,576,ZC,ZE,ZC,0⟩
def vo:TI:=⟨ZB,171,(zN 171 221122110221122110221122110221122110221122110221122110221122110221122110221122110221122110221122110221122110221122110221122110221122110221122110221122110221122110221122110),[(0,53),(99,54)],ZE,ZE,ZC,ZC,ZE,1368,ZC,ZE,ZC,0⟩
def Uh:TI:=⟨ZC,1,[.nsl],[],ZE,ZE,ZC,ZC,ZA 4,24,ZC,ZE,ZC,0⟩
def Ug:TI:=⟨ZC,1,[.nsl],[],ZE,ZE,ZC,ZC,ZA 56,24,ZC,ZE,ZC,0⟩
def Uf:TI:=⟨ZB,2,[.nsl,.nsl],[(0,29),(1,30)],ZE,ZE,ZC,ZC,ZE,48,ZC,ZE,ZC,0⟩
def vq:TI:=⟨ZC,1,[.nsl],[],ZE,ZE,ZC,ZC,ZA 66,24,ZC,ZE,ZC,0⟩
def vp:TI:=⟨ZB,2,[.int .i64 (.p 0),.nsl],[(0,3),(1,22)],ZE,ZE,ZC,ZC,ZE,32,ZC,ZE,ZC,0⟩
def Ue:TI:=⟨ZC,1,[.nsl],[],ZE,ZE,ZC,ZC,ZA 3,24,ZC,ZE,ZC,0⟩
def ame:TI:=⟨ZC,1,[.int .u32 (.p 0)],[],ZE,ZA .u32,ZC,ZC,ZE,4,ZC,ZE,ZC,0⟩
def Lk:TI:=⟨ZC,1,[.int .u8 (.p 0)],[],ZE,ZA .u8,ZC,ZC,ZE,1,ZC,ZE,ZC,0⟩
def aaj:TI:=⟨ZB,9,(zN 9 221122110),[(0,38),(1,50),(7,3),(8,3)],ZE,ZE,ZC,ZC,ZE,72,ZC,ZE,ZC,0⟩
def Qs:TI:=⟨ZB,11,(zN 11 11111111111),[],ZA (11,39),ZE,ZC,ZC,ZE,88,ZC,ZE,ZC,0⟩
def Qr:TI:=⟨ZB,64,(zN 64 3333333333333333333333333333333333333333333333333333333333333333),[],ZA (64,5),ZE,ZC,ZC,ZE,64,ZC,ZE,ZC,0⟩
def Qq:TI:=⟨ZB,76,(zN 76 3333333333333333333333333333333333333333333333333333333333333333211111111111),[(0,60),(11,3),(12,61)],ZE,ZE,ZC,ZC,ZE,160,ZC,ZE,ZC,0⟩
def aai:TI:=⟨ZB,171,(zN 171 221122110221122110221122110221122110221122110221122110221122110221122110221122110221122110221122110221122110221122110221122110221122110221122110221122110221122110221122110),[(0,53),(99,54)],ZE,ZE,ZB,ZC,ZE,1368,ZC,ZE,ZC,0⟩
def aoU:TI:=⟨ZC,1,[.nsl],[],ZE,ZE,ZC,ZC,ZA 5,24,ZC,ZE,ZC,0⟩
def aoT:TI:=⟨ZC,1,[.nsl],[],ZE,ZE,ZC,ZC,ZA 39,24,ZC,ZE,ZC,0⟩
def aoS:TI:=⟨ZC,1,[.nsl],[],ZE,ZE,ZC,ZC,ZA 178,24,ZC,ZE,ZC,0⟩
def arT:TI:=⟨ZC,1,[.np],[],ZE,ZE,ZC,ZC,ZE,8,ZC,ZE,ZC,1⟩
def arS:TI:=⟨ZB,82,[.int .i64 (.p 0),.nsl,.np,.int .u64 (.p 0),.int .u64 (.p 0),.int .u64 (.p 0),.int .u64 (.p 0),.int .u64 (.p 0),.int .u64 (.p 0),.int .u64 (.p 0),.int .u64 (.p 0),.int .u64 (.p 0),.int .u64 (.p 0),.int .u64 (.p 0),.int .i64 (.p 0),.int .u8 (.p 0),.int .u8 (.p 0),.int .u8 (.p 0),.int .u8 (.p 0),.int .u8 (.p 0),.int .u8 (.p 0),.int .u8 (.p 0),.int .u8 (.p 0),.int .u8 (.p 0),.int .u8 (.p 0),.int .u8 (.p 0),.int .u8 (.p 0),.int .u8 (.p 0),.int .u8 (.p 0),.int .u8 (.p 0),.int .u8 (.p 0),.int .u8 (.p 0),.int .u8 (.p 0),.int .u8 (.p 0),.int .u8 (.p 0),.int .u8 (.p 0),.int .u8 (.p 0),.int .u8 (.p 0),.int .u8 (.p 0),.int .u8 (.p 0),.int .u8 (.p 0),.int .u8 (.p 0),.int .u8 (.p 0),.int .u8 (.p 0),.int .u8 (.p 0),.int .u8 (.p 0),.int .u8 (.p 0),.int .u8 (.p 0),.int .u8 (.p 0),.int .u8 (.p 0),.int .u8 (.p 0),.int .u8 (.p 0),.int .u8 (.p 0),.int .u8 (.p 0),.int .u8 (.p 0),.int .u8 (.p 0),.int .u8 (.p 0),.int .u8 (.p 0),.int .u8 (.p 0),.int .u8 (.p 0),.int .u8 (.p 0),.int .u8 (.p 0),.int .u8 (.p 0),.int .u8 (.p 0),.int .u8 (.p 0),.int .u8 (.p 0),.int .u8 (.p 0),.int .u8 (.p 0),.int .u8 (.p 0),.int .u8 (.p 0),.int .u8 (.p 0),.int .u8 (.p 0),.int .u8 (.p 0),.int .u8 (.p 0),.int .u8 (.p 0),.int .u8 (.p 0),.int .u8 (.p 0),.int .u8 (.p 0),.int .u8 (.p 0),.int .i64 (.p 0),.nsl,.nsl],[(0,24),(2,87),(3,63),(79,3),(80,26),(81,40)],ZE,ZE,ZC,ZC,ZE,256,ZC,ZE,ZC,0⟩
def amf:TI:=⟨ZB,4,[.nsl,.nsl,.nsl,.nsl],[(0,25),(1,25),(2,25),(3,25)],ZE,ZE,ZC,ZC,ZE,96,ZC,ZE,ZC,0⟩
def WS:TI:=⟨ZB,3,[.int .i64 (.p 0),.nsl,.int .u64 (.p 0)],[(0,3),(1,26),(2,39)],ZE,ZE,ZC,ZC,ZE,40,ZC,ZE,ZC,0⟩
def arV:TI:=⟨ZC,1,[.nsl],[],ZE,ZE,ZC,ZC,ZA 63,24,ZC,ZE,ZC,0⟩
def arU:TI:=⟨ZB,5,[.int .i8 (.p 0),.int .u64 (.p 0),.nsl,.nsl,.int .i64 (.p 0)],[(0,38),(1,39),(2,25),(3,40),(4,3)],ZE,ZE,ZC,ZC,ZE,72,ZC,ZE,ZC,0⟩
def zlF:Tr:=.u (.j (.tt ZC) .nil)
def zlT:Tr:=.u (.j (.tt ZB) .nil)
def Ai:=aI @Tr.asks.eq_1 (aI @Tr.asks.eq_2 (aI @Tr.asks.eq_3 (aI @Tr.asks.eq_4 (aI @Tr.asks.eq_5 (aI @Tr.asks.eq_6 (aI @Tr.asks.eq_7 (aI @Tr.asks.eq_8 (aI @Tr.asks.eq_9 (aI @Tr.asks.eq_10 (aI @Tr.asks.eq_11 (aI @okDs.eq_1 (aI @okDs.eq_2 (aI @okDs.eq_3 (aI @okD.eq_1 (aI @okD.eq_2 (aI @okD.eq_3 (aI @okD.eq_4 (aI @eqs.eq_1 (aI @eqs.eq_2 (aI @eqs.eq_3 (aI @eqs.eq_4 (aI @eqs.eq_5 (aI @E.I.eq_1 (aI @E.I.eq_2 (aI @E.I.eq_3 (aI @E.I.eq_4 (aI @E.I.eq_5 (aI @E.I.eq_6 (aI @E.I.eq_7 (aI @E.I.eq_8 (aI @E.I.eq_9 (aI @E.I.eq_10 (aI @E.I.eq_11 (aI @E.I.eq_12 (aI @E.B.eq_1 (aI @E.B.eq_2 (aI @E.B.eq_3 (aI @E.B.eq_4 (aI @E.B.eq_5 (aI @E.B.eq_6 (aI @E.B.eq_7 (aI @E.B.eq_8 (aI @E.B.eq_9 (aI @E.B.eq_10 (aI @E.L.eq_1 (aI @E.L.eq_2 (aI @E.L.eq_3 (aI @E.R.eq_1 (aI @E.R.eq_2 (aI @E.R.eq_3 (aI @E.R.eq_4 (aI @E.R.eq_5 (aI @E.R.eq_6 (aI @E.R.eq_7 (aI @E.R.eq_8 (aI @E.R.eq_9 (aI @E.R.eq_10 (aI @E.D.eq_1 (aI @E.D.eq_2 (aI @E.D.eq_3 (aI @E.D.eq_4 (aI @E.vs.eq_1 (aI @E.vs.eq_2 (aI @E.gs.eq_1 (aI @E.gs.eq_2 (aI @E.ins.eq_1 (aI @E.sv.eq_1 (aI @E.sv.eq_2 (aI @E.tn.eq_1 (aI @E.tn.eq_2 (aI @E.iv.eq_1 (aI @E.iv.eq_2 (aI @E.zs.eq_1 (aI @E.zs.eq_2 (aI @E.zr.eq_1 (aI @E.zr.eq_2 (aI @E.sg.eq_1 (aI @E.sg.eq_2 (aI @E.tg.eq_1 (aI @E.tg.eq_2 (aI @E.rg.eq_1 (aI @E.rgs.eq_1 (aI @E.rgs.eq_2 (aI @E.rgs.eq_3 (aI @E.rgs.eq_4 (aI @E.pv.eq_1 (aI @E.pv.eq_2 (aI @dI.eq_1 (aI @dB.eq_1 (aI @dL.eq_1 (aI @varD.eq_1 (aI @varD.eq_2 (aI @varD.eq_3 (aI @varsD.eq_1 (aI @varsD.eq_2 (aI zlF.eq_1 (aI zlT.eq_1 (aI Kx (aI S1 (aI @oI (aI @rdZ.eq_1 (aI @rdB.eq_1 (@rdL.eq_1)))))))))))))))))))))))))))))))))))))))))))))))))))))))))))))))))))))))))))))))))))))))))))))))))))))))
def tpr:Nat->Nat->List Pl
 |_,0=>[]
 |a,n+1=>.top a::tpr (a+1) n
def E3:List (Nat×Nat)->List Pl
 |[]=>[]
 |x::l=>tpr x.1 x.2++E3 l
abbrev EH:=kN 171 221122110221122110221122110221122110221122110221122110221122110221122110221122110221122110221122110221122110221122110221122110221122110221122110221122110221122110221122110
abbrev O0:=kN 172 2211221102211221102211221102211221102211221102211221102211221102211221102211221102211221102211221102211221102211221102211221102211221102211221102211221102211221102211221109
abbrev Mm:=kN 76 3333333333333333333333333333333333333333333333333333333333333333211111111111
end Go.Proofs.YtgolejfhoefeaaaGreatDoor
