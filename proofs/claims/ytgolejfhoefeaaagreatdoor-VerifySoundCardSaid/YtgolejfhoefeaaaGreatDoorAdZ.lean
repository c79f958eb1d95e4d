import Derived.Test.YtgolejfhoefeaaaGreatDoorAcZ
import Derived.LoopN
import Derived.Lib.LazyBuf
import Derived.DeepKeys
set_option maxRecDepth 100000
set_option maxHeartbeats 8000000
set_option linter.defProp false
set_option linter.unusedVariables false
set_option linter.unusedSimpArgs false
namespace Go.Proofs.YtgolejfhoefeaaaGreatDoor
open Option renaming some->ZA,none->ZE,map_some->YU
open Bool renaming true->ZB,false->ZC,not_eq_true'->ZP
open Sem renaming run_bind->ZI
open Nat renaming beq->ZJ,le_refl->ZK,add_zero->ZS,add_assoc->YW
open Option.some renaming inj->ZN
open List renaming flatMap_cons->ZR,length_cons->YS,mem_cons->YT,foldl_cons->ZW,all_cons->ZY
open Go.Region renaming binds->YZ
open Go.RowKit
variable {w w' w0:World}{j:J}{s:St}{a:Act}{vks vk:List VK}{o:Oper}{fn:Func}{W0:Wb}{n v0 fuel i t g:Nat}{X vals:List Value}{sp:Spec}{v:Value}{P:Program}{cs z:List C}{args:List V}{k:CK}{tup b:Bool}{hints cuts:List (Nat×List Pl)}{y:Lp}{c:C}{ks:List CK}{xs ds r:List Dt}{sm:List Sm}{fns:List (Nat×Func×List (Nat×List Pl)×List (Nat×List Pl))}{FW:List (Option Nat)}{ss res:List Sh}
def E.sc(n:Nat):E->Bool
 |.p _|.nil|.tt _|.ln=>ZB
 |.w i|.s i|.g i=>Nat.blt i n
 |.f _ _ a b|.nth a b|.leq a b|.mix a b|.mn a b|.mx a b|.cons a b|.j a b | .N a b|.lt a b|.eq a b|.and a b|.beq a b|.lq a b|.lcat a b|.lrep a b|.ltake a b|.ldrop a b=>a.sc n&&b.sc n
 |.get a i _|.getb a i _=>a.sc n&&i.sc n
 |.lset a i _ x|.lsetb a i _ x|.lput a i x|.ite a i x=>a.sc n&&(i.sc n&&x.sc n)
 | .F _ a|.not a|.len a=>a.sc n
def E.sc_eq{U U':Env}(h:Ag n U U'):∀e:E,e.sc n=ZB->e.I U=e.I U'/\e.B U=e.B U'/\e.L U=e.L U'/\e.R U=e.R U'/\e.D U=e.D U':=by
 intro e
 induction e<;>intro hs<;>simp only[E.sc,ne]at hs
 case w i=>exact⟨(h i YN).1,rfl,rfl,rfl,rfl⟩
 case s i=>exact⟨rfl,(h i YN).2.1,rfl,rfl,rfl⟩
 case g i=>exact⟨rfl,rfl,rfl,(h i YN).2.2,rfl⟩
 case p=>exact⟨rfl,rfl,rfl,rfl,rfl⟩
 case nil=>exact⟨rfl,rfl,rfl,rfl,rfl⟩
 case ln=>exact⟨rfl,rfl,rfl,rfl,rfl⟩
 case tt=>exact⟨rfl,rfl,rfl,rfl,rfl⟩
 case F ih=>simp[E.I,E.B,E.L,E.R,E.D,ih hs]
 case not ih=>simp[E.I,E.B,E.L,E.R,E.D,ih hs]
 case len ih=>simp[E.I,E.B,E.L,E.R,E.D,ih hs]
 case lset Es Ee ih3=>simp[E.I,E.B,E.L,E.R,E.D,Es hs.1,Ee hs.2.1,ih3 hs.2.2]
 case ite Es Ee ih3=>simp[E.I,E.B,E.L,E.R,E.D,Es hs.1,Ee hs.2.1,ih3 hs.2.2]
 case lput Es Ee ih3=>simp[E.I,E.B,E.L,E.R,E.D,Es hs.1,Ee hs.2.1,ih3 hs.2.2]
 case lsetb Es Ee ih3=>simp[E.I,E.B,E.L,E.R,E.D,Es hs.1,Ee hs.2.1,ih3 hs.2.2]
 all_goals
  rename_i Es Ee;simp[E.I,E.B,E.L,E.R,E.D,Es hs.1,Ee hs.2]
def Cu:List VK->List E->E
 |.int _::ks,e::es=>.cons e (Cu ks es)
 |.bool::ks,e::es=>.j e (Cu ks es)
 |.list _::ks,e::es=>.N e (Cu ks es)
 |_,_=>.nil
structure Giv(v0:Nat)(vks:List VK)(θ:List E)(U U':Env):Prop where
 ag:Ag v0 U U'
 i:∀m k t,vks[m]? =ZA (.int k)->θ[m]? =ZA t->U'.i (v0+m)=t.I U
 b:∀m t,vks[m]? =ZA .bool->θ[m]? =ZA t->U'.b (v0+m)=t.B U
 l:∀m ks t,vks[m]? =ZA (.list ks)->θ[m]? =ZA t->U'.l (v0+m)=t.R U
def nN{a:Bool}(h:AE a=AE b):a=b:=by cases a<;>cases b<;>first|rfl|cases h
def V3{U U':Env}:∀(vks:List VK) (θ:List E) (n:Nat),θ.length=vks.length->varsD U' n vks=(Cu vks θ).D U->∀m t,θ[m]? =ZA t->(∀k,vks[m]? =ZA (.int k)->U'.i (n+m)=t.I U)/\(vks[m]? =ZA .bool->U'.b (n+m)=t.B U)/\(∀ks,vks[m]? =ZA (.list ks)->U'.l (n+m)=t.R U)
 |[],θ,n,hl,h,m,t,ht=>⟨fun k hk=>by simp at hk,fun hk=>by simp at hk,fun k hk=>by simp at hk⟩
 |vk::vks,[],n,hl,h,m,t,ht=>by cases hl
 |vk::vks,e::θ,n,hl,h,m,t,ht=>by
   have B9:θ.length=vks.length:=Yh;have step:∀d,varD U' n vk=d->(Cu (vk::vks) (e::θ)).D U=d::(Cu vks θ).D U->varsD U' (n+1) vks=(Cu vks θ).D U:=by intro d _ h2;have h3:varD U' n vk::varsD U' (n+1) vks=(Cu (vk::vks) (e::θ)).D U:=h;rw[h2]at h3;exact(List.cons.inj h3).2
   cases m with
   |zero=>
     simp only[cy,bv,ZS]at ht ⊢;subst ht;have h0:varD U' n vk::varsD U' (n+1) vks=(Cu (vk::vks) (e::θ)).D U:=h;refine⟨fun k hk=> ?_,fun hk=> ?_,fun ks hk=> ?_⟩
     .subst hk;simp only[Cu,E.D,varD,Be,Dt.z.injEq]at h0;exact h0.1
     .subst hk;simp only[Cu,E.D,varD,Be,Dt.z.injEq]at h0;exact nN h0.1
     .subst hk;simp only[Cu,E.D,varD,Be,Dt.l.injEq]at h0;exact h0.1
   |succ m=>
     have h1:varsD U' (n+1) vks=(Cu vks θ).D U:=by have h0:varD U' n vk::varsD U' (n+1) vks=(Cu (vk::vks) (e::θ)).D U:=h;cases vk<;>simp only[Cu,E.D,Be]at h0<;>exact h0.2
     have:=V3 vks θ (n+1) B9 h1 m t (by simpa using ht);simpa[YW,Nat.add_comm 1 m]using this
def atB{U U':Env}{θ:List E}(Er:Ag v0 U U')(hl:θ.length=vks.length)(h:varsD U' v0 vks=(Cu vks θ).D U):Giv v0 vks θ U U':=⟨Er,fun m k t hk ht=>(V3 vks θ v0 hl h m t ht).1 k hk,fun m t hk ht=>(V3 vks θ v0 hl h m t ht).2.1 hk,fun m ks t hk ht=>(V3 vks θ v0 hl h m t ht).2.2 ks hk⟩
def qO(v:Nat):List CE->List C×List VK
 |[]=>([],[])
 |some k::ks=>(.int k (.w v)::(qO (v+1) ks).1,.int k::(qO (v+1) ks).2)
 |none::ks=>(.bool (.s v)::(qO (v+1) ks).1,.bool::(qO (v+1) ks).2)
def Uk(heap:List Ob)(b o:Nat)(c:C):Option (List Ob):=match heap[b]? with
 |some (.box cs ty)=>if o<cs.length then ZA (heap.set b (.box (cs.set o c) ty))else ZE
 |_=>ZE
def akb(heap:List Ob)(b o:Nat)(l:List C):Option (List Ob):=match heap[b]? with
 |some (.box cs ty)=>if o+l.length<=cs.length then ZA (heap.set b (.box (cs.take o++(l++cs.drop (o+l.length))) ty))else ZE
 |_=>ZE
def TM.only(m:TM)(ks:List Nat):TM:=⟨ks.foldl (fun T k=>T.set (Nat.log2 m.n+1) k (m.cur.get k)) (.u .top),m.n,m.old⟩
def OL(v0:Nat)(p:Pl)(x:St×List VK):Option (St×List VK):=
 let v:=v0+x.2.length
 match p with
 |.top t=>if Nat.blt t x.1.n then ZA ({x.1 with tmps:=x.1.tmps.set t .top},x.2)else ZE
 |.tmpI t k=>if Nat.blt t x.1.n then ZA ({x.1 with tmps:=x.1.tmps.set t (.one (.int k (.w v)))},x.2++[.int k])else ZE
 |.tmpB t=>if Nat.blt t x.1.n then ZA ({x.1 with tmps:=x.1.tmps.set t (.one (.bool (.s v)))},x.2++[.bool])else ZE
 |.tmpA t ks=>if Nat.blt t x.1.n then ZA ({x.1 with tmps:=x.1.tmps.set t (.agg (qO v ks).1)},x.2++(qO v ks).2)else ZE
 |.tmpS t ks ty=>if Nat.blt t x.1.n then ZA (⟨x.1.tmps.set t (.one (.sl x.1.heap.length)),x.1.heap++[.row ⟨ks,ty,.g v,ZB,CR ks⟩]⟩,x.2++[.list ks])else ZE
 |.tmpX t ks ty=>if Nat.blt t x.1.n then ZA (⟨x.1.tmps.set t (.one (.ptr x.1.heap.length 0)),x.1.heap++[.box (qO v ks).1 ty]⟩,x.2++(qO v ks).2)else ZE
 |.cI b o k=>(Uk x.1.heap b o (.int k (.w v))).map fun h=>(⟨x.1.tmps,h⟩,x.2++[.int k])
 |.celB b o=>(Uk x.1.heap b o (.bool (.s v))).map fun h=>(⟨x.1.tmps,h⟩,x.2++[.bool])
 |.only ks=>ZA (⟨x.1.tmps.only ks,x.1.heap⟩,x.2)
 |.cels b o ks=>(akb x.1.heap b o (qO v ks).1).map fun h=>(⟨x.1.tmps,h⟩,x.2++(qO v ks).2)
 |.cT b o ks ty=>(Uk x.1.heap b o (.sl x.1.heap.length)).map fun h=>(⟨x.1.tmps,h++[.row ⟨ks,ty,.g v,ZB,CR ks⟩]⟩,x.2++[.list ks])
 |.celV b o ks ty=>(Uk x.1.heap b o (.sl x.1.heap.length)).map fun h=>(⟨x.1.tmps,h++[.row ⟨ks,ty,.g v,ZC,CR ks⟩]⟩,x.2++[.list ks])
 |.row id=>match x.1.heap[id]? with
   |some (.row r)=>ZA (⟨x.1.tmps,x.1.heap.set id (.row {r with l:=.g v})⟩,x.2++[.list r.ks])
   |_=>ZE
 |.gone id=>if id<x.1.heap.length then ZA (⟨x.1.tmps,x.1.heap.set id .gone⟩,x.2)else ZE
 |.ask=>ZE
def KU(v0:Nat):List Pl->St×List VK->Option (St×List VK)
 |[],x=>ZA x
 |p::l,x=>(OL v0 p x).bind (KU v0 l)
def xx:List CE->List C->Option (List E)
 |[],[]=>ZA []
 |some k::ks,.int k' e::cs=>if bE k k' then(xx ks cs).map (e::·)else ZE
 |none::ks,.bool e::cs=>(xx ks cs).map (e::·)
 |_,_=>ZE
def agA(heap:List Ob):C->Option (E×Option Nat)
 |.sl id=>(Km heap id).map fun r=>(r.l,ZA id)
 |.nsl=>ZA (.ln,ZE)
 |_=>ZE
def WV(p:Pl)(s:St):Option (List E×List (Option Nat)):=
 match p with
 |.top _=>ZA ([],[])
 |.tmpI t _=>match s.tmps.get? t with|some (.one (.int _ e))=>ZA ([e],[])|_=>ZE
 |.tmpB t=>match s.tmps.get? t with|some (.one (.bool e))=>ZA ([e],[])|_=>ZE
 |.tmpA t ks=>match s.tmps.get? t with|some (.agg cs)=>(xx ks cs).map fun l=>(l,[])|_=>ZE
 |.tmpS t _ _=>match s.tmps.get? t with|some (.one c)=>(agA s.heap c).map fun x=>([x.1],[x.2])|_=>ZE
 |.tmpX t ks _=>match s.tmps.get? t with|some (.one (.ptr b 0))=>(match s.heap[b]? with|some (.box cs _)=>(xx ks cs).map fun l=>(l,[ZA b])|_=>ZE)|_=>ZE
 |.cI b o _=>match Kr s.heap b o with|some (.int _ e)=>ZA ([e],[])|_=>ZE
 |.celB b o=>match Kr s.heap b o with|some (.bool e)=>ZA ([e],[])|_=>ZE
 |.only _=>ZA ([],[])
 |.cels b o ks=>match s.heap[b]? with|some (.box cs _)=>((R9 cs o ks.length).bind (xx ks)).map fun l=>(l,[])|_=>ZE
 |.cT b o _ _=>match Kr s.heap b o with|some c=>(agA s.heap c).map fun x=>([x.1],[x.2])|none=>ZE
 |.celV b o _ _=>match Kr s.heap b o with|some c=>(agA s.heap c).map fun x=>([x.1],[x.2])|none=>ZE
 |.row id=>(Km s.heap id).map fun r=>([r.l],[])
 |.gone _=>ZA ([],[])
 |.ask=>ZE
def NK:List Pl->St->Option (List E×List (Option Nat))
 |[],_=>ZA ([],[])
 |p::l,s=>match WV p s,NK l s with
   |some x,ZA y=>ZA (x.1++y.1,x.2++y.2)
   |_,_=>ZE
structure Mt where
 v0:Nat
 vks:List VK
 θ:List E
 h0:Nat
 ex:List (Option Nat)
 hd:List Ob
def Mt.sig(m:Mt)(a:Nat):Option (Option Nat):=match m.hd[a]? with
 |some (.box _ _)|some (.row _)|some (.loop _)=>if a<m.h0 then ZA (ZA a)else m.ex[a-m.h0]?
 |_=>ZE
def Mt.okI(m:Mt)(e e':E):Bool:=
 match e with
 |.w n=>if m.v0<=n then(match m.vks[n-m.v0]?,m.θ[n-m.v0]? with|some (.int _),ZA t=>t.same e'|_,_=>ZC)else(match e' with|.w n'=>ZJ n n'|_=>ZC)
 |e=>e.same e'&&e.sc m.v0
def Mt.okB(m:Mt)(e e':E):Bool:=
 match e with
 |.s n=>if m.v0<=n then(match m.vks[n-m.v0]?,m.θ[n-m.v0]? with|some .bool,ZA t=>t.same e'|_,_=>ZC)else(match e' with|.s n'=>ZJ n n'|_=>ZC)
 |e=>e.same e'&&e.sc m.v0
def Mt.okR(m:Mt)(e e':E):Bool:=
 match e with
 |.g n=>if m.v0<=n then(match m.vks[n-m.v0]?,m.θ[n-m.v0]? with|some (.list _),ZA t=>t.same e'|_,_=>ZC)else(match e' with|.g n'=>ZJ n n'|_=>ZC)
 |e=>e.same e'&&e.sc m.v0
def Mt.okId(m:Mt)(b b':Nat):Bool:=match m.sig b with|some (ZA x)=>ZJ x b'|_=>ZC
def Mt.okP(m:Mt):Option (Bool×Nat×Nat)->Option (Bool×Nat×Nat)->Bool
 |none,ZE=>ZB
 |some (ZB,b,o),ZA (ZB,b',o')=>ZJ o o'&&m.okId b b'
 |some (ZC,b,o),ZA (ZC,b',o')=>ZJ o o'&&ZJ b b'
 |_,_=>ZC
def Mt.okPs(m:Mt):List (Option (Bool×Nat×Nat))->List (Option (Bool×Nat×Nat))->Bool
 |[],[]=>ZB
 |x::l,y::r=>m.okP x y&&m.okPs l r
 |_,_=>ZC
def Mt.okC(m:Mt)(c d:C):Bool:=
 match c with
 |.int k e=>(match d with|.int k' e'=>bE k k'&&m.okI e e'|_=>ZC)
 |.bool e=>(match d with|.bool e'=>m.okB e e'|_=>ZC)
 |.ptr b o=>(match d with|.ptr b' o'=>ZJ o o'&&m.okId b b'|_=>ZC)
 |.fp b o=>(match d with|.fp b' o'=>ZJ b b'&&ZJ o o'|_=>ZC)
 |.fn f=>(match d with|.fn f'=>ZJ f f'|_=>ZC)
 |.np=>(match d with|.np=>ZB|_=>ZC)
 |.undef=>(match d with|.undef=>ZB|_=>ZC)
 |.sl id=>(match d with|.sl Jh=>m.okId id Jh|.nsl=>(match m.sig id with|some ZE=>ZB|_=>ZC)|_=>ZC)
 |.ep id z e o=>(match d with|.ep Jh z' e' o'=>m.okId id Jh&&(ZJ z z'&&(m.okI e e'&&ZJ o o'))|_=>ZC)
 |.nsl=>(match d with|.nsl=>ZB|_=>ZC)
 |.nf=>(match d with|.nf=>ZB|_=>ZC)
 |.nmp=>(match d with|.nmp=>ZB|_=>ZC)
 |.pe b o n sz e off=>(match d with|.pe b' o' n' Qk e' off'=>m.okId b b'&&(ZJ o o'&&(ZJ n n'&&(ZJ sz Qk&&(m.okI e e'&&ZJ off off'))))|_=>ZC)
 |.wn id sz lo hi mx=>(match d with|.wn Jh Qk Ww Bq P6=>m.okId id Jh&&(ZJ sz Qk&&(m.okI lo Ww&&(m.okI hi Bq&&(match mx,P6 with|none,ZE=>ZB|some x,ZA y=>m.okI x y|_,_=>ZC))))|_=>ZC)
 |.aw b o n sz lo hi mx=>(match d with|.aw b' o' n' Qk Ww Bq P6=>m.okId b b'&&(ZJ o o'&&(ZJ n n'&&(ZJ sz Qk&&(m.okI lo Ww&&(m.okI hi Bq&&m.okI mx P6)))))|_=>ZC)
 |.str e=>(match d with|.str e'=>m.okR e e'|_=>ZC)
 |.mp id=>(match d with|.mp Jh=>m.okId id Jh|_=>ZC)
 |.itp id mid=>(match d with|.itp Jh mid'=>m.okId id Jh&&m.okId mid mid'|_=>ZC)
 |.yld id=>(match d with|.yld Jh=>m.okId id Jh|_=>ZC)
 |.clo g fs ps=>(match d with|.clo g' fs' ps'=>ZJ g g'&&(m.okPs fs fs'&&m.okPs ps ps')|_=>ZC)
def Mt.okCs(m:Mt):List C->List C->Bool
 |[],[]=>ZB
 |c::cs,d::ds=>m.okC c d&&m.okCs cs ds
 |_,_=>ZC
def Mt.okW(m:Mt):List C->List C->Nat->List VK->List E->Bool
 |[],[],_,_,_=>ZB
 |c::cs,d::ds,n,vs,ts=>match c with
   |.int k (.w i)=>bif ZJ i n then(match vs with
    |.int _::PN=>(match ts with
      |t::ts'=>(match d with
        |.int k' e'=>bif bE k k'&&t.same e' then m.okW cs ds (n+1) PN ts' else ZC
        |_=>ZC)
      |[]=>ZC)
    | _=>ZC)
     else(bif m.okC (.int k (.w i)) d then(bif Nat.ble m.v0 i then m.okW cs ds (i+1) (m.vks.drop (i+1-m.v0)) (m.θ.drop (i+1-m.v0))else m.okW cs ds n vs ts)else ZC)
   |c=>bif m.okC c d then m.okW cs ds n vs ts else ZC
 |_,_,_,_,_=>ZC
def sj{α:Type}{l:List α}{a:α}{r:List α}(h:l.drop i=a::r):l[i]? =ZA a/\l.drop (i+1)=r:=by
 constructor
 .have:=List.getElem?_drop (xs:=l) (i:=i) (j:=0);rw[h]at this;simpa using this.symm
 .rw[<-List.drop_drop,h];rfl
def wE{m:Mt}:∀{cs ds:List C} {n:Nat} {vs:List VK} {ts:List E},m.v0<=n->m.vks.drop (n-m.v0)=vs->m.θ.drop (n-m.v0)=ts->m.okW cs ds n vs ts=ZB->m.okCs cs ds=ZB
 |[],[],_,_,_,_,_,_,_=>rfl
 |[],_::_,_,_,_,_,_,_,h=>by cases h
 |_::_,[],_,_,_,_,_,_,h=>by cases h
 |c::cs,d::ds,n,vs,ts,hn,h1,h2,h=>by
   have step:∀{c:C},(bif m.okC c d then m.okW cs ds n vs ts else ZC)=ZB->m.okCs (c::cs) (d::ds)=ZB:=fun {c} h=>by
    cases hc:m.okC c d with
    |false=>rw[hc]at h;cases h
    |true=>rw[hc]at h;simp only[Mt.okCs,hc,Bool.true_and];exact wE hn h1 h2 h
   unfold Mt.okW at h;split at h
   .rename_i k i;cases hb:ZJ i n with
    |false=>
      rw[hb]at h;simp only[cond_false]at h;cases hc:m.okC (.int k (.w i)) d with
      |false=>rw[hc]at h;cases h
      |true=>
        rw[hc]at h;simp only[Mt.okCs,hc,Bool.true_and];cases hl:Nat.ble m.v0 i with
        |false=>rw[hl]at h;exact wE hn h1 h2 h
        |true=>rw[hl]at h;exact wE (Nat.le_succ_of_le (Nat.le_of_ble_eq_true hl)) rfl rfl h
    |true=>
      rw[hb]at h;simp only[cond_true]at h;have:=Ak hb;subst this;split at h
      .rename_i PN;split at h
       .rename_i t ts';split at h
        .rename_i k' e';cases hc:bE k k'&&t.same e' with
         |false=>rw[hc]at h;cases h
         |true=>
           rw[hc]at h;rw[ne]at hc;obtain⟨a1,a2⟩:=sj h1;obtain⟨b1,b2⟩:=sj h2;have e1:i+1-m.v0=i-m.v0+1:=Fn;have hk:m.okC (.int k (.w i)) (.int k' e')=ZB:=by simp only[Mt.okC,Mt.okI,if_pos hn,a1,b1,hc.1,hc.2,Bool.and_self]
           simp only[Mt.okCs,hk,Bool.true_and];exact wE (Nat.le_succ_of_le hn) (by rw[e1];exact a2) (by rw[e1];exact b2) h
        .exact Xo
       .exact Xo
      .exact Xo
   .exact step h
def Mt.okL(m:Mt)(cs ds:List C):Bool:=m.okW cs ds m.v0 m.vks m.θ
def amB{m:Mt}{ds:List C}(h:m.okL cs ds=ZB):m.okCs cs ds=ZB:=wE (ZK _) (by simp) (by simp) h
def Mt.okT(m:Mt):List (Bool×List C)->List (Bool×List C)->Bool
 |[],[]=>ZB
 |(t,cs)::l,(t',ds)::r=>(t==t')&&(m.okCs cs ds&&m.okT l r)
 |_,_=>ZC
def Mt.okV(m:Mt):V->V->Bool
 |.top,_=>ZB
 |.one c,.one d=>m.okC c d
 |.agg cs,.agg ds=>m.okL cs ds
 |.tup l,.tup r=>m.okT l r
 |_,_=>ZC
def Mt.okLf(m:Mt)(v:V):TT->Bool
 |.u u=>m.okV v u
 |.node l r=>match v with
   |.top=>ZB
   |v=>m.okLf v l&&m.okLf v r
def Mt.okTT(m:Mt):TT->TT->Bool
 |.u v,t=>m.okLf v t
 |.node l r,t=>m.okTT l t.fst&&m.okTT r t.snd
def Mt.okOld(m:Mt):List (TT×Nat)->List (TT×Nat)->Bool
 |[],[]=>ZB
 |(t,n)::l,(t',n')::l'=>ZJ n n'&&(m.okTT t t'&&m.okOld l l')
 |_,_=>ZC
def Mt.okVs(m:Mt)(l r:TM):Bool:=ZJ l.n r.n&&(m.okTT l.cur r.cur&&m.okOld l.old r.old)
def Mt.okK(m:Mt):RK->RK->Bool
 |.sl,.sl=>ZB
 |.map a b c,.map a' b' c'=>ZJ a a'&&((b==b')&&(c==c'))
 |.it mid n,.it mid' n'=>m.okId mid mid'&&m.okI n n'
 |.ev,.ev=>ZB
 |.tab,.tab=>ZB
 |_,_=>ZC
def afk:Option Sig->Option Sig->Bool
 |none,ZE=>ZB
 |some .normal,ZA .normal=>ZB
 |some .ret,ZA .ret=>ZB
 |some (.exit a),ZA (.exit b)=>ZJ a b
 |_,_=>ZC
def LS.same:LS->LS->Bool
 |.ready,.ready=>ZB
 |.busy,.busy=>ZB
 |.done,.done=>ZB
 |_,_=>ZC
def ahh(x y:Lp):Bool:=LS.same x.st y.st&&afk x.pend y.pend
def ahg{x:Lp}(h:ahh x y=ZB):x=y:=by
 obtain⟨a,b⟩:=x;obtain⟨c,d⟩:=y;simp only[ahh,ne]at h;have h1:a=c:=by have:=h.1;cases a<;>cases c<;>first|rfl|cases this
 have h2:b=d:=by
  have:=h.2;rcases b with _|(_|_|_)<;>rcases d with _|(_|_|_)<;>first|rfl|(simp[afk]at this;done)|skip
  rw[Ak this]
 rw[h1,h2]
def Mt.okOb(m:Mt)(heap:List Ob)(a:Nat):Ob->Bool
 |.gone=>ZB
 |.box cs ty=>match m.sig a with
   |some (ZA b)=>(match heap[b]? with|some (.box ds OQ)=>ZJ ty OQ&&m.okL cs ds|_=>ZC)
   |_=>ZC
 |.row r=>match m.sig a with
   |some (ZA b)=>(match heap[b]? with|some (.row q)=>dc r.ks q.ks&&(ZJ r.ty q.ty&&((r.own==q.own)&&(m.okR r.l q.l&&m.okK r.kd q.kd)))|_=>ZC)
   |some ZE=>(match r.ks with |[]=>ZC|_::_=>m.okR r.l .ln&&r.kd.fits r.ks)
   |none=>ZC
 |.loop y=>match m.sig a with
   |some (ZA b)=>(match heap[b]? with|some (.loop y')=>ahh y y'|_=>ZC)
   |_=>ZC
def Mt.okHeap(m:Mt)(heap:List Ob):Nat->List Ob->Bool
 |_,[]=>ZB
 |a,ob::l=>m.okOb heap a ob&&m.okHeap heap (a+1) l
def Ob.isGone:Ob->Bool
 |.gone=>ZB
 |_=>ZC
def IB(hd:List Ob)(h0:Nat):List (Option Nat)->Bool
 |[]=>ZB
 |none::l=>IB hd h0 l
 |some b::l=>(if b<h0 then(match hd[b]? with|some ob=>ob.isGone|none=>ZC)else ZB)&&((l.all fun x=>match x with|some b'=>!ZJ b b'|none=>ZB)&&IB hd h0 l)
def Ud(heap:List Ob)(b:Nat):Bool:=match heap[b]? with
 |some (.row r)=>!r.own
 |_=>ZC
def zT(heap:List Ob):Option Nat->Option Nat
 |some b=>if Ud heap b then ZE else ZA b
 |none=>ZE
def mj(vk:List VK):List VK->List E->Bool
 |[],[]=>ZB
 |.int k::ks,e::es=>e.rng vk k&&mj vk ks es
 |.bool::ks,_::es=>mj vk ks es
 |.list ks0::ks,e::es=>e.lok vk ks0&&mj vk ks es
 |_,_=>ZC
def yE(vk:List VK):List VK->List E->Rm->Bool
 |[],[],_=>ZB
 |.int k::ks,e::es,m=>match e.rngW vk k m with
   |some m'=>yE vk ks es m'
   |none=>ZC
 |.bool::ks,_::es,m=>yE vk ks es m
 |.list ks0::ks,e::es,m=>e.lok vk ks0&&yE vk ks es m
 |_,_,_=>ZC
def O0(vk:List VK)(vks:List VK)(θ:List E):Bool:=yE vk vks θ (Rm.ini vk)
def mh{vk:List VK}:∀{vks:List VK} {θ:List E} {m:Rm},m.ok vk->yE vk vks θ m=ZB->mj vk vks θ=ZB
 |[],[],_,_,_=>rfl
 |.int k::ks,e::es,m,hm,h=>by
   simp only[yE]at h;split at h
   next m' hw=>obtain⟨h1,h2⟩:=yF hm hw;simp only[mj,h1,mh h2 h,Bool.and_self]
   .exact Xo
 |.bool::ks,_::es,m,hm,h=>mh (vks:=ks) (θ:=es) hm h
 |.list ks0::ks,e::es,m,hm,h=>by simp only[yE,ne]at h;simp only[mj,h.1,mh hm h.2,Bool.and_self]
def yQ(v0:Nat)(hd:List Ob):Nat->List VK->Bool
 |_,[]=>ZB
 |n,.list ks::l=>(hd.any fun ob=>match ob with|.row r=>(match r.l with|.g m=>ZJ m (v0+n)|_=>ZC)&&dc r.ks ks|_=>ZC)&&yQ v0 hd (n+1) l
 |n,_::l=>yQ v0 hd (n+1) l
def Mt.ok(m:Mt)(cx:Cx)(vk:List VK)(tmps:TM)(s:St):Bool:=
 (m.okVs tmps s.tmps&&m.okHeap s.heap 0 m.hd)&&(IB m.hd m.h0 (m.ex.map (zT s.heap))&&((cx.fb.all fun cs=>m.okCs cs cs)&&(O0 vk m.vks m.θ&&yQ m.v0 m.hd 0 m.vks)))
section
variable {m:Mt}{U U':Env}{j:J}
def lc(hg:Giv m.v0 m.vks m.θ U U'){e e':E}(h:m.okI e e'=ZB):e.I U'=e'.I U:=by
 unfold Mt.okI at h;split at h
 .rename_i n;split at h
  .rename_i hn;split at h
   next k t hk ht=>have h1:=hg.i _ _ t hk ht;rw[show m.v0+(n-m.v0)=n by omega]at h1;rw[<-E.same_eq h];exact h1
   .exact Xo
  .rename_i hn;split at h
   next n'=>rw[<-Ak h];exact(hg.ag n Fn).1.symm
   .exact Xo
 .rw[ne]at h;rw[<-E.same_eq h.1];exact(E.sc_eq hg.ag _ h.2).1.symm
def asl(hg:Giv m.v0 m.vks m.θ U U'){e e':E}(h:m.okB e e'=ZB):e.B U'=e'.B U:=by
 unfold Mt.okB at h;split at h
 .rename_i n;split at h
  .rename_i hn;split at h
   next t hk ht=>have h1:=hg.b _ t hk ht;rw[show m.v0+(n-m.v0)=n by omega]at h1;rw[<-E.same_eq h];exact h1
   .exact Xo
  .rename_i hn;split at h
   next n'=>rw[<-Ak h];exact(hg.ag n Fn).2.1.symm
   .exact Xo
 .rw[ne]at h;rw[<-E.same_eq h.1];exact(E.sc_eq hg.ag _ h.2).2.1.symm
def ag6(hg:Giv m.v0 m.vks m.θ U U'){e e':E}(h:m.okR e e'=ZB):e.R U'=e'.R U:=by
 unfold Mt.okR at h;split at h
 .rename_i n;split at h
  .rename_i hn;split at h
   next ks t hk ht=>have h1:=hg.l _ _ t hk ht;rw[show m.v0+(n-m.v0)=n by omega]at h1;rw[<-E.same_eq h];exact h1
   .exact Xo
  .rename_i hn;split at h
   next n'=>rw[<-Ak h];exact(hg.ag n Fn).2.2.symm
   .exact Xo
 .rw[ne]at h;rw[<-E.same_eq h.1];exact(E.sc_eq hg.ag _ h.2).2.2.2.1.symm
def nilSV:SV:=⟨ZE,0,0,[]⟩
def lE{o:Bool}{k:Nat}:¬nilSV.blk o=ZA k:=fun h=>by have:=aA h;cases this
def Mt.J(m:Mt)(j:J):J:=⟨fun b=>match m.sig b with|some (ZA x)=>j.b x|_=>ZE,fun id=>match m.sig id with|some (ZA x)=>j.s x|some ZE=>ZA nilSV|none=>ZE,j.f,⟨fun b=>match m.sig b with|some (ZA x)=>j.g.y x|_=>ZE,j.g.z⟩⟩
def lb{b b':Nat}(h:m.okId b b'=ZB):(m.J j).b b=j.b b'/\(m.J j).s b=j.s b':=by
 unfold Mt.okId at h;split at h
 next x hx=>rw[<-Ak h];simp only[Mt.J,hx,and_self]
 .exact Xo
def asj{b b':Nat}(h:m.okId b b'=ZB):(m.J j).g.y b=j.g.y b':=by
 unfold Mt.okId at h;split at h
 next x hx=>rw[<-Ak h];simp only[Mt.J,hx]
 .exact Xo
def ash{x y:Option (Bool×Nat×Nat)}(h:m.okP x y=ZB)(hd:Eg j y=ZA v):Eg (m.J j) x=ZA v:=by
 unfold Mt.okP at h;split at h
 .exact hd
 .simp only[ne]at h;have:=Ak h.1;subst this;simp only[Eg]at hd ⊢;rw[(lb h.2).1];exact hd
 .simp only[ne]at h;rw[Ak h.1,Ak h.2];exact hd
 .exact Xo
def yJ:∀{l r:List (Option (Bool×Nat×Nat))},m.okPs l r=ZB->∀{vs:List Value},eZ j r=ZA vs->eZ (m.J j) l=ZA vs
 |[],[],_,vs,hd=>hd
 |x::l,y::r,h,vs,hd=>by
   simp only[Mt.okPs,ne]at h;simp only[eZ]at hd ⊢;cases hx:Eg j y with
   |none=>rw[hx]at hd;cases hd
   |some v=>
     cases hl:eZ j r with
     |none=>rw[hx,hl]at hd;cases hd
     |some us=>rw[hx,hl]at hd;rw[ash h.1 hx,yJ h.2 hl];exact hd
def Qw(U U':Env):RK->RK->Prop
 |.sl,.sl=>True
 |.map a b c,.map a' b' c'=>a=a'/\b=b'/\c=c'
 |.it _ n,.it _ n'=>n.I U'=n'.I U
 |.ev,.ev=>True
 |.tab,.tab=>True
 |_,_=>False
def asi(hg:Giv m.v0 m.vks m.θ U U'){a b:RK}(h:m.okK a b=ZB):Qw U U' a b:=by
 cases a<;>cases b<;>simp only[Mt.okK]at h<;>first|exact Bool.noConfusion h|skip
 .trivial
 .simp only[ne,cL]at h;exact⟨Ak h.1,h.2.1,h.2.2⟩
 .simp only[ne]at h;exact lc hg h.2
 .trivial
 .trivial
def RowOk.swap{base:Nat}{v:SV}{r q:RowOb}(e1:r.ks=q.ks)(e2:r.ty=q.ty)(e3:r.own=q.own)(e4:r.l.R U'=q.l.R U)(e5:Qw U U' r.kd q.kd)(h:RowOk U base w v q):RowOk U' base w v r:=by
 rcases h.cases with⟨hk,h6⟩|⟨hk,h6⟩|⟨hk,h6⟩
 .have B2:r.kd=.sl:=by
   rw[hk]at e5;cases hr:r.kd<;>rw[hr]at e5<;>first|rfl|exact e5.elim
  refine SlOk.row ⟨?_,?_,?_,by rw[e3];exact h6.lt,fun ho=> ?_,?_⟩ B2
  .rw[e4];exact h6.n
  .rw[e1,e4];exact h6.rows
  .rw[e1];exact h6.pos
  .rw[e1,e2,e4];exact h6.own (by rw[<-e3];exact ho)
  .rw[e1,e4];exact h6.rd
 .obtain⟨g,ob,h1,h2,h3,h4⟩:=h6.at';refine HdOk.row ⟨by rw[e3];exact h6.own,by rw[e1,e4];exact h6.rows,h6.c,g,ob,h1,h2,h3,?_⟩ ?_
  .unfold Ln at h4 ⊢;cases hr:r.kd<;>cases hq:q.kd<;>rw[hr,hq]at e5<;>first|exact e5.elim|skip
   .rw[hq]at hk;cases hk
   .rw[hq]at h4;obtain⟨rfl,rfl,rfl⟩:=e5;rw[e1,e4];exact h4
   .rw[hq]at h4;have e5':_=_:=e5;dsimp only at h4 ⊢;rw[e1,e4,e5'];exact h4
   .rw[hq]at hk;cases hk
   .rw[hq]at h4;exact h4
  .cases hr:r.kd<;>cases hq:q.kd<;>rw[hr,hq]at e5<;>first|exact e5.elim|rfl|(rw[hq]at hk;cases hk)
 .have B2:r.kd=.ev:=by
   rw[hk]at e5;cases hr:r.kd<;>rw[hr]at e5<;>first|rfl|exact e5.elim
  obtain⟨ins,g1,g2,g3,g4⟩:=h6.at';exact EvOk.row ⟨by rw[e1];exact h6.ks,by rw[e4];exact h6.n,by rw[e1,e4];exact h6.rows,by rw[e3];exact h6.lt,by rw[e3];exact h6.zb,ins,by rw[e4];exact g1,by rw[e2,e3,e4];exact g2,by rw[e4];exact g3,by rw[e4];exact g4⟩ B2
def ag7(hg:Giv m.v0 m.vks m.θ U U'){d:C}(h:m.okC c d=ZB)(hd:d.den U j=ZA v):c.den U' (m.J j)=ZA v:=by
 cases c with
 |int k e=>
   simp only[Mt.okC]at h;split at h
   .simp only[ne]at h;simp only[C.den]at hd ⊢;rw[ar h.1,lc hg h.2];exact hd
   .exact Xo
 |bool e=>
   simp only[Mt.okC]at h;split at h
   .simp only[C.den]at hd ⊢;rw[asl hg h];exact hd
   .exact Xo
 |ptr b o=>
   simp only[Mt.okC]at h;split at h
   .simp only[ne]at h;simp only[C.den]at hd ⊢;rw[Ak h.1,(lb h.2).1];exact hd
   .exact Xo
 |fp b o=>
   simp only[Mt.okC]at h;split at h
   .simp only[ne]at h;rw[Ak h.1,Ak h.2];exact hd
   .exact Xo
 |fn f=>
   simp only[Mt.okC]at h;split at h
   .rw[Ak h];exact hd
   .exact Xo
 |np=>simp only[Mt.okC]at h;split at h<;>first|exact hd|cases h
 |undef=>simp only[Mt.okC]at h;split at h<;>first|exact hd|cases h
 |nsl=>simp only[Mt.okC]at h;split at h<;>first|exact hd|cases h
 |nf=>simp only[Mt.okC]at h;split at h<;>first|exact hd|cases h
 |nmp=>simp only[Mt.okC]at h;split at h<;>first|exact hd|cases h
 |clo g fs ps=>
   simp only[Mt.okC]at h;split at h
   next g' fs' ps'=>simp only[ne]at h;obtain⟨x,y,hx,hy,rfl⟩:=gu (show FC g' (eZ j fs') (eZ j ps')=ZA v from hd);simp only[C.den,yJ h.2.1 hx,yJ h.2.2 hy,FC,Ak h.1]
   .exact Xo
 |sl id=>
   simp only[Mt.okC]at h;split at h
   .simp only[C.den]at hd ⊢;rw[(lb h).2];exact hd
   .split at h
    next hs=>cases hd;simp only[C.den,Mt.J,hs];rfl
    .exact Xo
   .exact Xo
 |pe b o n sz e off=>
   simp only[Mt.okC]at h;split at h
   .simp only[ne]at h;simp only[C.den]at hd ⊢;rw[(lb h.1).1,Ak h.2.1,Ak h.2.2.2.1,lc hg h.2.2.2.2.1,Ak h.2.2.2.2.2];exact hd
   .exact Xo
 |yld id=>
   simp only[Mt.okC]at h;split at h
   .simp only[C.den]at hd ⊢;rw[asj h];exact hd
   .exact Xo
 |mp id=>
   simp only[Mt.okC]at h;split at h
   .simp only[C.den]at hd ⊢;rw[(lb h).2];exact hd
   .exact Xo
 |wn id sz lo hi mx=>
   simp only[Mt.okC]at h;split at h
   .rename_i Jh Qk Ww Bq P6;simp only[ne]at h;obtain⟨h1,h2,h3,h4,h5⟩:=h;have hm:∀c,Nt U' mx c=Nt U P6 c:=fun c=>by
     cases mx<;>cases P6<;>first|rfl|exact Bool.noConfusion h5|(simp only[Nt,lc hg h5])
    simp only[C.den]at hd ⊢;simp only[(lb h1).2,Ak h2,lc hg h3,lc hg h4,hm];exact hd
   .exact Xo
 |aw b o n sz lo hi mx=>
   simp only[Mt.okC]at h;split at h
   .simp only[ne]at h;obtain⟨h1,h2,h3,h4,h5,h6,h7⟩:=h;simp only[C.den]at hd ⊢;rw[(lb h1).1,Ak h2,Ak h3,Ak h4,lc hg h5,lc hg h6,lc hg h7];exact hd
   .exact Xo
 |str e=>
   simp only[Mt.okC]at h;split at h
   .simp only[C.den]at hd ⊢;rw[ag6 hg h];exact hd
   .exact Xo
 |itp id mid=>
   simp only[Mt.okC]at h;split at h
   .simp only[ne]at h;simp only[C.den]at hd ⊢;rw[(lb h.1).2,(lb h.2).2];exact hd
   .exact Xo
 |ep id z e o=>
   simp only[Mt.okC]at h;split at h
   .simp only[ne]at h;simp only[C.den]at hd ⊢;rw[(lb h.1).2,Ak h.2.1,lc hg h.2.2.1,Ak h.2.2.2];exact hd
   .exact Xo
def qe(hg:Giv m.v0 m.vks m.θ U U'):∀{cs ds:List C},m.okCs cs ds=ZB->∀{vs:List Value},Af U j ds=ZA vs->Af U' (m.J j) cs=ZA vs
 |[],[],_,vs,h=>h
 |c::cs,d::ds,h,vs,hd=>by
   simp only[Mt.okCs,ne]at h;simp only[Af]at hd ⊢;cases hc:d.den U j with
   |none=>rw[hc]at hd;cases hd
   |some v=>
     cases hl:Af U j ds with
     |none=>rw[hc,hl]at hd;cases hd
     |some l=>rw[hc,hl]at hd;rw[ag7 hg h.1 hc,qe hg h.2 hl];exact hd
def amA(hg:Giv m.v0 m.vks m.θ U U'):∀{cs ds:List (Bool×List C)},m.okT cs ds=ZB->∀{vs:List Value},cm U j ds=ZA vs->cm U' (m.J j) cs=ZA vs
 |[],[],_,vs,h=>h
 |(t,cs)::l,(t',ds)::r,h,vs,hd=>by
   simp only[Mt.okT,ne,cL]at h;obtain⟨rfl,h1,h2⟩:=h;simp only[cm]at hd ⊢;cases hc:BL U j (t,ds)with
   |none=>rw[hc]at hd;cases hd
   |some v=>
     cases hl:cm U j r with
     |none=>rw[hc,hl]at hd;cases hd
     |some us=>
       rw[hc,hl]at hd;have h3:BL U' (m.J j) (t,cs)=ZA v:=by
        cases t with
        |true=>simp only[BL,Ay]at hc ⊢;obtain⟨PN,hv,rfl⟩:=hc;exact⟨PN,qe hg h1 hv,rfl⟩
        |false=>
          match ds,hc with
          |[d],hc=>
            match cs,h1 with
            |[c],h1=>simp only[Mt.okCs,Bool.and_true]at h1;exact ag7 hg h1 hc
            |_::_::_,h1=>simp[Mt.okCs]at h1
       rw[h3,amA hg h2 hl];exact hd
def asg(hg:Giv m.v0 m.vks m.θ U U'){x y:V}(h:m.okV x y=ZB):x=.top\/(y≠.top/\∀{v},y.den U j=ZA v->x.den U' (m.J j)=ZA v):=by
 unfold Mt.okV at h;split at h
 .exact .inl rfl
 .exact .inr ⟨fun e=>(by cases e),fun hd=>ag7 hg h hd⟩
 .refine .inr ⟨fun e=>(by cases e),fun hd=> ?_⟩;simp only[V.den,Ay]at hd ⊢;obtain⟨l,hl,rfl⟩:=hd;exact⟨l,qe hg (amB h) hl,rfl⟩
 .refine .inr ⟨fun e=>(by cases e),fun hd=> ?_⟩;simp only[V.den,Ay]at hd ⊢;obtain⟨l,hl,rfl⟩:=hd;exact⟨l,amA hg h hl,rfl⟩
 .exact Xo
def yK{v:V}:∀{t:TT},m.okLf v t=ZB->∀i,m.okV v (t.get i)=ZB
 |.u u,h,i=>h
 |.node l r,h,i=>by
   rw[TT.get_node];by_cases hv:v=.top
   .subst hv;rfl
   .have h':(m.okLf v l&&m.okLf v r)=ZB:=by
     unfold Mt.okLf at h;split at h
     .exact absurd rfl hv
     .exact h
    rw[ne]at h';split
    .exact yK h'.1 _
    .exact yK h'.2 _
def tW:∀{t u:TT},m.okTT t u=ZB->∀i,m.okV (t.get i) (u.get i)=ZB
 |.u v,u,h,i=>yK h i
 |.node l r,u,h,i=>by
   simp only[Mt.okTT,ne]at h;rw[TT.get_node];split
   next hi=>rw[<-TT.get_fst u i hi];exact tW h.1 _
   next hi=>rw[<-TT.get_snd u i hi];exact tW h.2 _
def abn:∀{l r:List (TT×Nat)},m.okOld l r=ZB->fd l=fd r/\∀(i:Nat) x y,ja l i=ZA x->ja r i=ZA y->m.okV x y=ZB
 |[],[],_=>⟨rfl,fun i x y h=>by cases h⟩
 |(t,n)::l,(t',n')::l',h=>by
   simp only[Mt.okOld,ne]at h;obtain rfl:=Ak h.1;obtain⟨h1,h2⟩:=abn h.2.2;refine⟨by simp only[fd,h1],fun i x y hx hy=> ?_⟩;unfold ja at hx hy;split at hx
   next hi=>rw[if_pos hi]at hy;cases hx;cases hy;exact tW h.2.1 i
   next hi=>rw[if_neg hi]at hy;exact h2 _ x y hx hy
def apS{l r:TM}(h:m.okVs l r=ZB):l.length=r.length/\∀(i:Nat) x y,l.get? i=ZA x->r.get? i=ZA y->m.okV x y=ZB:=by
 simp only[Mt.okVs,ne]at h;obtain⟨h1,h2,h3⟩:=h;replace h1:=Ak h1;obtain⟨h4,h5⟩:=abn h3;refine⟨by unfold TM.length;rw[h1,h4],fun i x y hx hy=> ?_⟩;unfold TM.get? at hx hy;rw[<-h1]at hy;split at hx
 next hi=>rw[if_pos hi]at hy;cases hx;cases hy;exact tW h2 i
 next hi=>rw[if_neg hi]at hy;exact h5 _ x y hx hy
def wF{heap:List Ob}:∀{l:List Ob} {a:Nat},m.okHeap heap a l=ZB->∀(i:Nat) ob,l[i]? =ZA ob->m.okOb heap (a+i) ob=ZB
 |[],a,_,i,ob,hi=>by simp at hi
 |x::l,a,h,i,ob,hi=>by
   simp only[Mt.okHeap,ne]at h;cases i with
   |zero=>simp at hi;subst hi;exact h.1
   |succ i=>have:=wF h.2 i ob XS;rwa [show a+(i+1)=a+1+i by omega]
def aij{hd:List Ob}{h0:Nat}:∀{ex:List (Option Nat)},IB hd h0 ex=ZB->(∀(i:Nat) b,ex[i]? =ZA (ZA b)->b<h0->∃ob,hd[b]? =ZA ob/\ob.isGone=ZB)/\∀(i i':Nat) b,ex[i]? =ZA (ZA b)->ex[i']? =ZA (ZA b)->i=i'
 |[],_=>⟨fun i b h=>by simp at h,fun i i' b h=>by simp at h⟩
 |x::l,h=>by
   have key:IB hd h0 l=ZB/\∀b,x=ZA b->(b<h0->∃ob,hd[b]? =ZA ob/\ob.isGone=ZB)/\∀(i:Nat),l[i]? ≠ZA (ZA b):=by
    cases x with
    |none=>exact⟨h,fun b hb=>by cases hb⟩
    |some b=>
      simp only[IB,ne]at h;refine⟨h.2.2,fun b' hb=> ?_⟩;cases hb;refine⟨fun As=> ?_,fun i hi=> ?_⟩
      .have h1:=h.1;rw[if_pos As]at h1;split at h1
       next ob I5=>exact⟨ob,I5,h1⟩
       .cases h1
      .have h2:=Ct.1 h.2.1 _ (fD hi);simp at h2
   obtain⟨k1,k2⟩:=key;obtain⟨g1,g2⟩:=aij k1;refine⟨fun i b hi hb=> ?_,fun i i' b hi Bq=> ?_⟩
   .cases i with
    |zero=>simp at hi;exact(k2 b hi).1 hb
    |succ i=>exact g1 i b XS hb
   .cases i with
    |zero=>
      simp at hi;cases i' with
      |zero=>rfl
      |succ i'=>exact absurd (by simpa using Bq) ((k2 b hi).2 i')
    |succ i=>
      cases i' with
      |zero=>simp at Bq;exact absurd XS ((k2 b Bq).2 i)
      |succ i'=>rw[g2 i i' b XS (by simpa using Bq)]
def afj{heap:List Ob}(h:IB m.hd m.h0 (m.ex.map (zT heap))=ZB){a a' x:Nat}(hv:Ud heap x=ZC)(h1:m.sig a=ZA (ZA x))(h2:m.sig a'=ZA (ZA x)):a=a':=by
 obtain⟨g1,g2⟩:=aij h;have key:∀a,m.sig a=ZA (ZA x)->(a<m.h0/\a=x/\∃ob,m.hd[a]? =ZA ob/\ob.isGone=ZC)\/(m.h0<=a/\(m.ex.map (zT heap))[a-m.h0]? =ZA (ZA x)):=by
  intro a ha;unfold Mt.sig at ha;split at ha
  all_goals first
   |cases ha;done
   | split at ha
     next I5 As=>cases ha;exact .inl ⟨As,rfl,_,I5,rfl⟩
     .exact .inr ⟨by omega,by rw[jn,ha];simp[zT,hv]⟩
 rcases key a h1 with⟨k1,k2,ob,k3,k4⟩|⟨k1,k2⟩<;>rcases key a' h2 with⟨l1,l2,V6,l3,l4⟩|⟨l1,l2⟩
 .exact Fn
 .subst k2;obtain⟨ob1,q1,q2⟩:=g1 _ _ l2 k1;rw[k3]at q1;cases q1;rw[k4]at q2;cases q2
 .subst l2;obtain⟨ob1,q1,q2⟩:=g1 _ _ k2 l1;rw[l3]at q1;cases q1;rw[l4]at q2;cases q2
 .have:=g2 _ _ _ k2 l2;omega
def qd{heap:List Ob}(h:m.okHeap heap 0 m.hd=ZB){a:Nat}{ob:Ob}(ha:m.hd[a]? =ZA ob):m.okOb heap a ob=ZB:=by have:=wF h a ob ha;rwa [bJ]at this
def qj{cx:Cx}{tmps:TM}(Al:m.ok cx vk tmps s=ZB)(hg:Giv m.v0 m.vks m.θ U U')(h:Rel U n X W0 cx.fbs s.fs j a w):Rel U' n X W0 cx.fbs (St.mk tmps m.hd).fs (m.J j) a w:=by
 simp only[Mt.ok,ne]at Al;obtain⟨⟨hT,hH⟩,hX,hF,-,-⟩:=Al;obtain⟨hl,Dx⟩:=apS hT;have Lk:∀{b:Nat} {ob:Ob},s.heap[b]? =ZA ob->∀{cs ty},ob=.box cs ty->s.fs.row b=ZE:=fun hb _ _ e=>by subst e;simp only[St.fs,Ax,BO,hb]
 have KD:∀{b:Nat} {ob:Ob},s.heap[b]? =ZA ob->∀{r},ob=.row r->s.fs.box b=ZE:=fun hb _ e=>by subst e;simp only[St.fs,Ax,Ci,hb]
 have Lm:∀{b cs ty},m.hd[b]? =ZA (.box cs ty)->∃x ds,m.sig b=ZA (ZA x)/\s.heap[x]? =ZA (.box ds ty)/\m.okCs cs ds=ZB:=by
  intro b cs ty hb;have h1:=qd hH hb;simp only[Mt.okOb]at h1;split at h1
  .rename_i x hx;split at h1
   next ds OQ Bp=>simp only[ne]at h1;have:=Ak h1.1;subst this;exact⟨x,ds,hx,Bp,amB h1.2⟩
   .cases h1
  .cases h1
 have jo:∀{b r},m.hd[b]? =ZA (.row r)->(∃x q,m.sig b=ZA (ZA x)/\s.heap[x]? =ZA (.row q)/\r.ks=q.ks/\r.ty=q.ty/\r.own=q.own/\r.l.R U'=q.l.R U/\m.okK r.kd q.kd=ZB)\/(m.sig b=ZA ZE/\0<r.ks.length/\r.l.R U'=[]/\r.kd=CR r.ks):=by
  intro b r hb;have h1:=qd hH hb;simp only[Mt.okOb]at h1;split at h1
  .rename_i x hx;split at h1
   next q hq=>simp only[ne,cL]at h1;exact .inl ⟨x,q,hx,hq,cJ h1.1,Ak h1.2.1,h1.2.2.1,ag6 hg h1.2.2.2.1,h1.2.2.2.2⟩
   .cases h1
  .rename_i hx;split at h1
   .cases h1
   next k ks hk=>rw[ne]at h1;exact .inr ⟨hx,by rw[hk];simp,ag6 hg h1.1,RK.fits_eq h1.2⟩
  .cases h1
 have OH:∀{b y},m.hd[b]? =ZA (.loop y)->∃x,m.sig b=ZA (ZA x)/\s.heap[x]? =ZA (.loop y):=by
  intro b y hb;have h1:=qd hH hb;simp only[Mt.okOb]at h1;split at h1
  .rename_i x hx;split at h1
   next y' hy=>exact⟨x,hx,by rw[ahg h1];exact hy⟩
   .cases h1
  .cases h1
 have E3:∀{b},(∀cs ty,m.hd[b]? ≠ZA (.box cs ty))->(∀r,m.hd[b]? ≠ZA (.row r))->(∀y,m.hd[b]? ≠ZA (.loop y))->m.sig b=ZE:=by
  intro b h1 h2 h0;unfold Mt.sig;split
  next hb=>exact absurd hb (h1 _ _)
  next hb=>exact absurd hb (h2 _)
  next hb=>exact absurd hb (h0 _)
  .rfl
 have S4:∀b cs ty,(St.mk tmps m.hd).fs.box b=ZA (cs,ty)->m.hd[b]? =ZA (.box cs ty):=by
  intro b cs ty hb;simp only[St.fs,Ax,Ci]at hb;split at hb
  next Gu OQ Ew=>cases hb;exact Ew
  .cases hb
 have Fm:∀b r,(St.mk tmps m.hd).fs.row b=ZA (ZA r)->m.hd[b]? =ZA (.row r):=by
  intro b r hb;simp only[St.fs,Ax,BO]at hb;split at hb
  next r' Ew=>cases hb;exact Ew
  .cases hb
  .cases hb
 have Dj:∀{x q},s.heap[x]? =ZA (.row q)->s.fs.row x=ZA (ZA q):=fun hx=>by simp only[St.fs,Ax,BO,hx]
 have Mb:∀{x cs ty},s.heap[x]? =ZA (.box cs ty)->s.fs.box x=ZA (cs,ty):=fun hx=>by simp only[St.fs,Ax,Ci,hx]
 have at1:∀t v,(s.fs.tmp t=.top\/(s.fs.tmp t).den U j=ZA v)->((St.mk tmps m.hd).fs.tmp t=.top\/((St.mk tmps m.hd).fs.tmp t).den U' (m.J j)=ZA v):=by
  intro t v h2;rcases bt t tmps.length with h3|h3
  .obtain⟨x,hx⟩:=TM.get_some h3;obtain⟨y,hy⟩:=TM.get_some (m:=s.tmps) (i:=t) Fn;have h5:=Dx t _ _ hx hy;have e1:(St.mk tmps m.hd).fs.tmp t=x:=by simp[St.fs,Ax,hx]
   have e2:s.fs.tmp t=y:=by simp[St.fs,Ax,hy]
   rw[e1];rw[e2]at h2;rcases asg hg (j:=j) h5 with h6|⟨h6,h7⟩
   .exact .inl h6
   .rcases h2 with h2|h2
    .exact absurd h2 h6
    .exact .inr (h7 h2)
  .have e1:(St.mk tmps m.hd).fs.tmp t=.one .undef:=by simp only[St.fs,Ax];rw[TM.get_none.2 h3];rfl
   have e2:s.fs.tmp t=.one .undef:=by simp only[St.fs,Ax];rw[TM.get_none.2 Fn];rfl
   rw[e1];rw[e2]at h2;rcases h2 with h2|h2
   .exact XU
   .exact .inr h2
 refine⟨h.defers,h.size,fun t ht=> ?_,fun i v hi=>at1 _ v (h.sav i v hi),fun b cs ty hb=> ?_,fun b hb=> ?_,fun b b' k hb Ew=> ?_,fun b r hb=> ?_,fun b hb=> ?_,fun b b' k r v hb hr hs hk=> ?_,fun b b' r r' v v' k hr ho AU hs Bj hk B2=> ?_,fun b cs hb=> ?_,h.ext,⟨h.gs.at',fun k o b hz e=> ?_,fun k o id r v hz hr hs hc e=> ?_,h.gs.md,h.gs.nd,fun id y hy=> ?_,fun id hF hy=> ?_,fun id r v hr hs p hp=> ?_,fun id r v hr hk hs=> ?_⟩⟩
 .obtain⟨v,h1,h2⟩:=h.tmp t ht;exact⟨v,h1,at1 t v h2⟩
 .obtain⟨x,ds,h1,h2,h3⟩:=Lm (S4 b cs ty hb);obtain⟨k,vs,h4,h5,h6,h7⟩:=h.box x ds ty (Mb h2);exact⟨k,vs,by simp only[Mt.J,h1];exact h4,h5,qe hg h3 h6,h7⟩
 .simp only[Mt.J];cases hs:m.hd[b]? with
  |none=>rw[E3 XK XK XK]
  |some ob=>
    cases ob with
    |box cs ty=>simp[St.fs,Ax,Ci,hs]at hb
    |gone=>rw[E3 XK XK XK]
    |row r=>
      rcases jo hs with⟨x,q,h1,h2,_⟩|⟨h1,_⟩
      .rw[h1];exact h.nob x (KD h2 rfl)
      .rw[h1]
    |loop y=>obtain⟨x,h1,h2⟩:=OH hs;rw[h1];exact h.nob x (by simp only[St.fs,Ax,Ci,h2])
 .simp only[Mt.J]at hb Ew;split at hb<;>first|cases hb;done|skip
  rename_i x hx;split at Ew<;>first|cases Ew;done|skip
  rename_i x' F9;have:=h.inj x x' k hb Ew;subst this;refine afj hX ?_ hx F9;unfold Ud;split
  next q hq=>have:=h.nob x (KD hq rfl);rw[hb]at this;cases this
  .rfl
 .rcases jo (Fm b r hb)with⟨x,q,h1,h2,e1,e2,e3,e4,e5⟩|⟨h1,h2,h3,h4⟩
  .obtain⟨v,h5,h6⟩:=h.row x q (Dj h2);exact⟨v,by simp only[Mt.J,h1];exact h5,RowOk.swap e1 e2 e3 e4 (asi hg e5) h6⟩
  .refine⟨nilSV,by simp only[Mt.J,h1],?_⟩;rcases cC r.ks with⟨g1,g2⟩|⟨_,g2⟩
   .exact EvOk.row ⟨g1,by rw[h3];rfl,by rw[h3];exact⟨fun r hr=>(by cases hr),by simp⟩,fun k hk=>absurd hk lE,fun _ p hp=>Yn,[],by rw[h3];rfl,fun _=>(by rw[h3];exact World.ownsRow_nil _ _ _ _),by rw[h3];exact RdRow.nil,fun i row x hr=>by rw[h3]at hr;simp at hr⟩ (h4.trans g2)
   .refine SlOk.row ⟨by rw[h3];rfl,by rw[h3];exact⟨fun r hr=>(by cases hr),by simp⟩,h2,fun k hk=>absurd hk lE,fun _=>(by rw[h3];exact World.ownsRow_nil _ _ _ _),?_⟩ (h4.trans g2);rw[h3];exact RdRow.nil
 .simp only[Mt.J];cases hs:m.hd[b]? with
  |none=>rw[E3 XK XK XK]
  |some ob=>
    cases ob with
    |row r=>simp[St.fs,Ax,BO,hs]at hb
    |gone=>simp[St.fs,Ax,BO,hs]at hb
    |box cs ty=>obtain⟨x,ds,h1,h2,h3⟩:=Lm hs;rw[h1];exact h.nor x (Lk h2 rfl)
    |loop y=>obtain⟨x,h1,h2⟩:=OH hs;rw[h1];exact h.nor x (by simp only[St.fs,Ax,BO,h2])
 .simp only[Mt.J]at hb hs;split at hb<;>first|cases hb;done|skip
  rename_i x hx;rcases jo (Fm b' r hr)with⟨x',q,h1,h2,_,_,e3,_⟩|⟨h1,_⟩
  .rw[h1]at hs;exact h.sep x x' k q v hb (Dj h2) hs (by rw[<-e3];exact hk)
  .rw[h1]at hs;cases hs;exact lE hk
 .simp only[Mt.J]at hs Bj;rcases jo (Fm b r hr)with⟨x,q,h1,h2,_,_,e3,_⟩|⟨h1,_⟩
  .rcases jo (Fm b' r' AU)with⟨x',q',Hr,h2',_,_,e3',_⟩|⟨Hr,_⟩
   .rw[h1]at hs;rw[Hr]at Bj;have:=h.rsep x x' q q' v v' k (Dj h2) (by rw[<-e3];exact ho) (Dj h2') hs Bj (by rw[<-e3];exact hk) (by rw[<-e3'];exact B2);subst this;exact afj hX (by simp only[Ud,h2];rw[<-e3,ho];rfl) h1 Hr
   .rw[Hr]at Bj;cases Bj;exact absurd B2 lE
  .rw[h1]at hs;cases hs;exact absurd hk lE
 .obtain⟨k,vs,h1,h2,h3,h4⟩:=h.fb b cs hb;refine⟨k,vs,h1,h2,qe hg ?_ h3,h4⟩;exact Ct.1 hF cs (fD hb)
 .simp only[Mt.J]at e;split at e<;>first|cases e;done|skip
  rename_i x hx;exact h.gs.box k o x hz e
 .simp only[Mt.J]at hs;rcases jo (Fm id r hr)with⟨x,q,h1,h2,_,_,e3,_⟩|⟨h1,_⟩
  .rw[h1]at hs;exact h.gs.row k o x q v hz (Dj h2) hs (by rw[<-e3];exact hc) (by rw[<-e3];exact e)
  .rw[h1]at hs;cases hs;exact lE e
 .have hy':m.hd[id]? =ZA (.loop y):=by
   simp only[St.fs,Ax,GV]at hy;split at hy
   next y' hy'=>cases hy;exact hy'
   .cases hy
  obtain⟨x,h1,h2⟩:=OH hy';obtain⟨rf,o,h3,h4,h5,h6⟩:=h.gs.lp x y (by simp only[St.fs,Ax,GV,h2]);exact⟨rf,o,h3,by simp only[Mt.J,h1];exact h4,h5,h6⟩
 .simp only[Mt.J];cases hs:m.hd[id]? with
  |none=>rw[E3 XK XK XK]
  |some ob=>
    cases ob with
    |row r=>simp[St.fs,Ax,BO,hs]at hF
    |gone=>simp[St.fs,Ax,BO,hs]at hF
    |loop y=>simp[St.fs,Ax,GV,hs]at hy
    |box cs ty=>obtain⟨x,ds,h1,h2,h3⟩:=Lm hs;rw[h1];exact h.gs.nol x (Lk h2 rfl) (by simp only[St.fs,Ax,GV,h2])
 .simp only[Mt.J]at hs;rcases jo (Fm id r hr)with⟨x,q,h1,h2,_,_,e3,_⟩|⟨h1,_⟩
  .rw[h1]at hs;exact h.gs.ev x q v (Dj h2) hs p hp
  .rw[h1]at hs;cases hs;cases hp
 .simp only[Mt.J]at hs;rcases jo (Fm id r hr)with⟨x,q,h1,h2,e1,_,_,e4,e5⟩|⟨h1,_,_,h4⟩
  .rw[h1]at hs;have hq:q.kd=.tab:=by
    rw[hk]at e5;cases Uf:q.kd<;>rw[Uf]at e5<;>first|rfl|cases e5
   exact(h.gs.tb x q v (Dj h2) hq hs).mono e4 e1 (fun _ _ _ hz=>hz) (fun _ _=>rfl)
  .exact absurd (h4.symm.trans hk) yW
def OP(v0:Nat)(θ:List E)(U:Env):Env:=⟨fun i=>if v0<=i then(match θ[i-v0]? with|some t=>t.I U|none=>0)else U.i i,fun i=>if v0<=i then(match θ[i-v0]? with|some t=>t.B U|none=>ZC)else U.b i,fun i=>if v0<=i then(match θ[i-v0]? with|some t=>t.R U|none=>[])else U.l i⟩
def aid(v0:Nat)(vks:List VK)(θ:List E)(U:Env):Giv v0 vks θ U (OP v0 θ U):=by
 refine⟨fun i hi=> ?_,fun m k t _ ht=> ?_,fun m t _ ht=> ?_,fun m ks t _ ht=> ?_⟩
 .have:¬v0<=i:=by omega
  simp[OP,this]
 all_goals simp[OP,ht]
def mi{vk:List VK}:∀{vks:List VK} {θ:List E},mj vk vks θ=ZB->θ.length=vks.length
 |[],[],_=>rfl
 |.int k::ks,e::es,h=>by simp only[mj,ne]at h;simp[mi h.2]
 |.bool::ks,e::es,h=>by simp only[mj]at h;simp[mi h]
 |.list k::ks,e::es,h=>by simp only[mj,ne]at h;simp[mi h.2]
 |.int _::_,[],h=>by cases h
 |.bool::_,[],h=>by cases h
 |.list _::_,[],h=>by cases h
def oF{vk:List VK}(hv:Vk U vk):∀{vks:List VK} {θ:List E},mj vk vks θ=ZB->(∀(i:Nat) ks t,vks[i]? =ZA (.list ks)->θ[i]? =ZA t->(t.R U).length<=maxLen)->okDs vks ((Cu vks θ).D U)
 |[],[],_,_=>trivial
 |.int k::ks,e::es,h,hl=>by simp only[mj,ne]at h;exact⟨E.rng_ok hv e h.1,oF hv h.2 (fun i k t h1 h2=>hl (i+1) k t XE XR)⟩
 |.bool::ks,e::es,h,hl=>by simp only[mj]at h;refine⟨?_,oF hv h (fun i k t h1 h2=>hl (i+1) k t XE XR)⟩;show AE (e.B U)=0\/AE (e.B U)=1;cases e.B U<;>simp[AE]
 |.list k::ks,e::es,h,hl=>by simp only[mj,ne]at h;exact⟨⟨E.lok_ok hv e h.1,hl 0 k e rfl rfl⟩,oF hv h.2 (fun i k t h1 h2=>hl (i+1) k t XE XR)⟩
 |.int _::_,[],h,_=>by cases h
 |.bool::_,[],h,_=>by cases h
 |.list _::_,[],h,_=>by cases h
def akp{θ:List E}(h:O0 vk vks θ=ZB):θ.length=vks.length:=mi (mh (Rm.ini_ok vk) h)
def apq(hv:Vk U vk){θ:List E}(h:O0 vk vks θ=ZB)(hl:∀(i:Nat) ks t,vks[i]? =ZA (.list ks)->θ[i]? =ZA t->(t.R U).length<=maxLen):okDs vks ((Cu vks θ).D U):=oF hv (mh (Rm.ini_ok vk) h) hl
def abB{v0:Nat}{hd:List Ob}:∀{vks:List VK} {n:Nat},yQ v0 hd n vks=ZB->∀(i:Nat) ks,vks[i]? =ZA (.list ks)->∃r:RowOb,.row r∈hd/\r.l=.g (v0+(n+i))
 |[],n,_,i,ks,hi=>by simp at hi
 |k::l,n,h,i,ks,hi=>by
   cases i with
   |zero=>
     simp only[cy,bv]at hi;subst hi;simp only[yQ,ne,List.any_eq_true]at h;obtain⟨ob,h1,h2⟩:=h.1;split at h2
     .rename_i r;rw[ne]at h2;have h3:=h2.1;split at h3
      next m hm=>exact⟨r,h1,by rw[hm,Ak h3];rfl⟩
      .cases h3
     .exact XU
   |succ i=>
     have h':yQ v0 hd (n+1) l=ZB:=by cases k<;>first|exact h|(simp only[yQ,ne]at h;exact h.2)
     obtain⟨r,h1,h2⟩:=abB h' i ks XS;exact⟨r,h1,by rw[h2];congr 1;omega⟩
def ac1{cx:Cx}{tmps:TM}(Al:m.ok cx vk tmps s=ZB)(hv:Vk U vk)(h:Rel U n X W0 cx.fbs s.fs j a w):m.θ.length=m.vks.length/\okDs m.vks ((Cu m.vks m.θ).D U):=by
 have IR:=qj Al (aid m.v0 m.vks m.θ U) h;simp only[Mt.ok,ne]at Al;obtain⟨_,_,_,hR,hL⟩:=Al;refine⟨akp hR,apq hv hR (fun i ks t hi ht=> ?_)⟩;obtain⟨r,h1,h2⟩:=abB hL i ks hi;obtain⟨b,hb,he⟩:=List.getElem_of_mem h1;have AV:(St.mk tmps m.hd).fs.row b=ZA (ZA r):=by simp[St.fs,Ax,BO,AH hb,he]
 obtain⟨v,_,h3⟩:=IR.row b r AV;have h4:=h3.rows.len;rw[h2,bJ]at h4;have h5:=(aid m.v0 m.vks m.θ U).l i ks t hi ht;simp only[E.R]at h4;rw[h5]at h4;exact h4
end
def jd(o:Oper)(ms:List Nat):Nat:=o.after.toList.foldl (fun m e=>if YZ .any e then m ||| (2 ^ e.on ||| ms.getD e.on 0)else m) 0
def tU(ops:Array Oper)(r:Rec)(m:Nat):Nat->List Rec->Bool
 |_,[]=>ZB
 |k,x::pre=>(m.testBit k||VA ops x r)&&tU ops r m (k+1) pre
def MC(ops:Array Oper):List Rec->Nat->List Rec->List Nat->Bool
 |[],_,_,_=>ZB
 |r::l,i,pre,ms=>
   (r.o.after.toList.all fun e=>!YZ .any e||decide (e.on<i))&&(tU ops r (jd r.o ms) 0 pre&&MC ops l (i+1) (pre++[r]) (ms++[jd r.o ms]))
section
variable {ops:Array Oper}
def uf{ms:List Nat}{k:Nat}:∀(l:List Edge) (m0:Nat),(l.foldl (fun m e=>if YZ .any e then m ||| (2 ^ e.on ||| ms.getD e.on 0)else m) m0).testBit k=ZB->
  m0.testBit k=ZB\/∃e∈l,YZ .any e=ZB/\(k=e.on\/(ms.getD e.on 0).testBit k=ZB)
 |[],m0,h=>.inl h
 |e::l,m0,h=>by
   simp only[ZW]at h;rcases uf l _ h with h1|⟨e',h1,h2⟩
   .split at h1
    .rename_i hb;rw[Nat.testBit_or,Nat.testBit_or,Nat.testBit_two_pow,fk,fk,aB]at h1;rcases h1 with h1|h1|h1
     .exact .inl h1
     .exact .inr ⟨e,bR,hb,.inl h1.symm⟩
     .exact .inr ⟨e,bR,hb,.inr h1⟩
    .exact .inl h1
   .exact .inr ⟨e',cM _ h1,h2⟩
def abg{r:Rec}{m:Nat}:∀(pre:List Rec) (k0:Nat),tU ops r m k0 pre=ZB->∀(k:Nat) x,pre[k]? =ZA x->m.testBit (k0+k)=ZB\/Indep ops x r
 |y::pre,k0,h,k,x,hk=>by
   simp only[tU,ne,fk]at h;cases k with
   |zero=>simp only[cy,bv]at hk;subst hk;exact h.1.imp id abK
   |succ k=>have:=abg pre (k0+1) h.2 k x (by simpa using hk);rwa [YW,Nat.add_comm 1 k]at this
 |[],_,_,k,x,hk=>by simp at hk
def agX(QR:∀(i:Nat) r,∀L:List Rec,ops.toList=L.map (·.o)->L[i]? =ZA r->ops[i]? =ZA r.o):∀(post pre:List Rec) (ms:List Nat),ops.toList=(pre++post).map (·.o)->MC ops post pre.length pre ms=ZB->ms.length=pre.length->
  (∀(i:Nat),i<ms.length->∀k,(ms.getD i 0).testBit k=ZB->∀A7,iG ops A7->(∀o,ops[i]? =ZA o->∀e∈o.after,YZ .any e=ZB->A7 e.on=ZB)->A7 k=ZB)->
  (∀(i:Nat) r,pre.length<=i->(pre++post)[i]? =ZA r->∀e∈r.o.after,YZ .any e=ZB->e.on<i)/\
  (∀(k i:Nat) x r,k<i->pre.length<=i->(pre++post)[k]? =ZA x->(pre++post)[i]? =ZA r->Indep ops x r\/∀A7,iG ops A7->(∀o,ops[i]? =ZA o->∀e∈o.after,YZ .any e=ZB->A7 e.on=ZB)->A7 k=ZB)
 |[],pre,ms,hl,h,hm,hms=>by
   have ZE:∀(i:Nat) r,pre.length<=i->¬(pre++[])[i]? =ZA r:=fun i r hi hr=>by rw[List.append_nil,cf hi]at hr;cases hr
   exact⟨fun i r hi hr=>absurd hr (ZE i r hi),fun k i x r _ hi _ hr=>absurd hr (ZE i r hi)⟩
 |r0::post,pre,ms,hl,h,hm,hms=>by
   simp only[MC,ne]at h;obtain⟨h1,h2,h3⟩:=h;have e1:pre++r0::post=(pre++[r0])++post:=by simp
   have MN:ops[pre.length]? =ZA r0.o:=QR pre.length r0 _ hl (by simp);have MZ:∀k,(jd r0.o ms).testBit k=ZB->∀A7,iG ops A7->(∀o,ops[pre.length]? =ZA o->∀e∈o.after,YZ .any e=ZB->A7 e.on=ZB)->A7 k=ZB:=by
    intro k hk A7 hc he;rcases uf _ 0 hk with h4|⟨e,h4,h5,h6⟩
    .simp at h4
    .have R3:e∈r0.o.after:=by simpa using h4
     have hs:=he _ MN e R3 h5;rcases h6 with rfl|h6
     .exact hs
     .rcases bt e.on ms.length with h7|h7
      .exact hms e.on h7 k h6 A7 hc (fun o ho e' Ic hb=>hc e.on o ho hs e' Ic hb)
      .rw[bV,cf h7]at h6;simp at h6
   obtain⟨g1,g2⟩:=agX QR post (pre++[r0]) (ms++[jd r0.o ms]) (by rw[<-e1];exact hl) (by simpa using h3) (by simp[hm]) (fun i hi k hk=>by
    rcases bt i ms.length with h4|h4
    .rw[bV,A9 h4,<-bV]at hk;exact hms i h4 k hk
    .have:i=ms.length:=by simp at hi;omega
     subst this;rw[bV,Bl (ZK _)]at hk;simp only[Nat.sub_self,cy,Option.getD_some]at hk;rw[hm];exact MZ k hk)
   rw[e1];refine⟨fun i r hi hr=> ?_,fun k i x r hk hi hx hr=> ?_⟩
   .rcases bt pre.length i with h4|h4
    .exact g1 i r XC hr
    .have:i=pre.length:=by omega
     subst this;have:r=r0:=by simpa using hr.symm
     subst this;intro e he hb;have:=Ct.1 h1 e YE;simpa[hb]using this
   .rcases bt pre.length i with h4|h4
    .exact g2 k i x r hk XC hx hr
    .have:i=pre.length:=by omega
     subst this;have:r=r0:=by simpa using hr.symm
     subst this;rw[<-e1,A9 hk]at hx;rcases abg pre 0 h2 k x hx with h5|h5
     .rw[bJ]at h5;exact .inr (MZ k h5)
     .exact .inl h5
end
def V2(f:St->Kw->(Sig->St->Kw->Tr)->Tr):Nat->St->Kw->(Sig->St->Kw->Tr)->Tr
 |0,_,_,_=>.stuck 73
 |n+1,s,kw,k=>f s kw fun sg s kw=>match sg with
   |.normal=>V2 f n s kw k
   |sg=>k sg s kw
def D5:Code->Option Nat
 |.region id _ _=>ZA id
 |.seq a b=>(match D5 a with|some i=>ZA i|none=>D5 b)
 |.block _ c=>D5 c
 |.loop c=>D5 c
 |.cond _ x y=>(match D5 x with|some i=>ZA i|none=>D5 y)
 |_=>ZE
def amX(c:Code)(l:List (Nat×List Pl)):Option (Nat×List Pl):=match D5 c with
 |some i=>(am i l).map (i,·)
 |none=>ZE
def Kw.head(kw:Kw)(vks:List VK):Kw:=⟨kw.pc.filter fun p=>p.1.sc kw.vk.length,[],kw.vk++vks,kw.lv+1⟩
def T7(cx:Cx)(lv v0:Nat)(vks:List VK)(hd:St)(h0:Nat)(pls:List Pl)(s:St)(kw:Kw):Tr:=match NK pls s with
 |some (θ,ex)=>if Mt.ok ⟨v0,vks,θ,h0,ex,hd.heap⟩ cx kw.vk hd.tmps s then .next lv (Cu vks θ)else .stuck 110
 |none=>.stuck 111
abbrev Iz:=Nat->List V->St->Kw->(V->St->Kw->Tr)->Tr
def yB:Nat:=1000000
structure RfS where
 ps:Array Nat
 assign:Code
 body:Code
 dep:Nat
 len:Nat
 hints:List (Nat×List Pl)
 cuts:List (Nat×List Pl)
abbrev RlK:=RfS->Iz
def tX(heap:List Ob):Bool:=heap.all Ob.noLp
def qm:Operand->Bool
 |.const (.slice ZE 0 0)=>ZB
 |_=>ZC
def WW(cx:Cx)(o:Oper):Bool:=match o.op with
 |.next _ ZC=>ZB
 |.binOp .eql _ _ y _=>qm y
 |.call c=>(match cx.fns with
   |[]=>ZC
   |_::_=>match c.callee with
     |.value (.func g)=>!(cx.sm.any fun s=>ZJ s.f g)
     |.value (.tmp _)=>ZB
     |_=>ZC)
 |_=>ZC
def gq:Nat->List Oper->List (Nat×Oper)
 |_,[]=>[]
 |i,o::l=>(i,o)::gq (i+1) l
def mL(cx:Cx):List (Nat×Oper)->Option (Nat×Oper)
 |[]=>ZE
 |p::l=>if WW cx p.2 then ZA p else mL cx l
def gf(ops:Array Oper):List Nat:=ops.toList.foldl (fun ms o=>ms++[jd o ms]) []
def JC:Option (Bool×Nat×Nat)->V
 |none=>.one .np
 |some (ZB,b,o)=>.one (.ptr b o)
 |some (ZC,b,o)=>.one (.fp b o)
def KK(cl:Iz)(o:Oper)(g:Nat)(args:List V)(s:St)(kw:Kw)(k:St->Kw->Tr):Tr:=
 cl g args s kw fun v s' An=>match o.dst with
  |none=>k s' An
  |some d=>if Nat.blt d s'.n then k ⟨s'.tmps.set d v,s'.heap⟩ An else .stuck 60
def avf(cx:Cx)(s:St)(kw:Kw)(o:Oper):Bool:=
 match o.op with
 |.call c=>match c.callee with
   |.value f=>match Ia s.n s.tmps f,Ey (Ia s.n s.tmps) c.args.toList with
     |some (.one (.fn g)),ZA args=>(rZ kw.vk (s.vw cx) g args cx.sm).isSome
     |_,_=>ZC
   |_=>ZC
 |_=>ZC
def ao0(s:St)(kw:Kw):Mt:=⟨kw.vk.length,[],[],s.heap.length,[],s.heap⟩
def O3(l:E)(v:Nat):E:=.not (.and (.eq (.w v) (.p 0)) (.lt (.p 0) (dG l)))
def Po(cx:Cx)(o:Oper)(xt id:Nat)(s:St)(kw:Kw)(k:St->Kw->Tr):Tr:=
 match Km s.heap id,am xt cx.ty with
 |some r,ZA i=>
   if r.kd.isSl&&(i.sle.isSome&&Mt.ok (ao0 s kw) cx kw.vk s.tmps s)then
    .any kw.vk.length (O3 r.l kw.vk.length) (match s.app o.dst {val:=.one (.bool (.eq (.w kw.vk.length) (.p 0)))}with
     |some s'=>k s' (kw.head [.int .i64])
     |none=>.stuck 60)
   else .stuck 191
 |_,_=>.stuck 192
def Vl(cl:Iz)(cx:Cx)(o:Oper)(s:St)(kw:Kw)(k:St->Kw->Tr):Tr:=
 match o.op with
 |.binOp .eql xt x y _=>if qm y then(match Ia s.n s.tmps x with
   |some (.one (.sl id))=>Po cx o xt id s kw k
   |some (.one .nsl)=>(match am xt cx.ty with
     |some i=>if i.sle.isSome then(match s.app o.dst {val:=.one (.bool (.tt ZB))}with
       |some s'=>k s' kw
       |none=>.stuck 60)else .stuck 193
     |none=>.stuck 193)
   |_=>.stuck 194)else .stuck 195
 |.call c=>match c.callee with
   |.value f=>match Ia s.n s.tmps f,Ey (Ia s.n s.tmps) c.args.toList with
     |some (.one (.fn g)),ZA args=>if Nat.blt g yB then KK cl o g args s kw k else .stuck 208
     |some (.one (.clo g fs ps)),ZA args=>if Nat.blt g yB then KK cl o g (fs.map JC++args++ps.map JC) s kw k else .stuck 208
     |some (.one (.yld id)),ZA args=>KK cl o (yB+id) args s kw k
     |_,_=>.stuck 123
   |_=>.stuck 124
 |.next x ZC=>match Ia s.n s.tmps x with
   |some (.one (.itp id mid))=>.stuck 301
   |_=>.stuck 158
 |_=>.stuck 125
def UC(o:Oper)(s:St)(kw:Kw)(k:St->Kw->Tr):Tr:=match s.app o.dst {val:=.one .undef}with
 |some s'=>k s' kw
 |none=>.stuck 60
def LZ(cl:Iz)(cx:Cx)(ops:Array Oper)(o:Oper)(s:St)(kw:Kw)(k:St->Kw->Tr):Tr:=
 if avf cx s kw o then Ec cx ops [o] s kw fun _ s kw=>k s kw else
 match o.guard with
 |none=>Vl cl cx o s kw k
 |some (g,b)=>match((ops[g]?).bind (·.dst)).bind (fun t=>if Nat.blt t s.n then s.tmps.get? t else ZE)with
   |some (.one (.bool e))=>AL e (fun x kw=>if x==b then Vl cl cx o s kw k else UC o s kw k) kw
   |some (.one .undef)=>UC o s kw k
   |_=>.stuck 61
def J5(cl:Iz)(cx:Cx)(ops:Array Oper):List Oper->St->Kw->(St->Kw->Tr)->Tr
 |[],s,kw,k=>k s kw
 | o::l,s,kw,k=>if WW cx o then LZ cl cx ops o s kw fun s kw=>J5 cl cx ops l s kw k
   else Ec cx ops [o] s kw fun _ s kw=>J5 cl cx ops l s kw k
def avE(ops:Array Oper)(A7:Nat->Bool)(i:Nat)(o:Oper):Bool:=
 (gq 0 ops.toList).all fun p=>ZJ p.1 i||(A7 p.1||((p.2.after.toList.any fun e=>YZ .any e&&ZJ e.on i)||o.apart ops p.2))
def aig(cx:Cx)(ops:Array Oper)(A7:Nat->Bool)(i:Nat)(o:Oper):Bool:=
 o.guard.isNone&&((match o.op with
  |.move _=>ZB
  |.assign _=>ZB
  |.fieldAddr s _ f=>(match am s cx.ty with
    |some i=>(i.fields[f]?).isSome
    |none=>ZC)
  |.indexAddr _ _ _=>ZB
  |.nilCheck _=>ZB
  |.slice _ _ _ _ _=>ZB
  |_=>ZC)&&(Region.noSelect ops&&avE ops A7 i o))
def mS(ms:List Nat)(i k:Nat):Bool:=(ms.getD i 0).testBit k
def UM(ops:Array Oper)(ms:List Nat)(p:Nat×Rec):List (Nat×Rec)->Bool
 |[]=>ZB
 |q::l=>(mS ms p.1 q.1||VA ops q.2 p.2)&&UM ops ms p l
def oC(ops:Array Oper)(ms:List Nat):List (Nat×Rec)->List (Nat×Rec)->Bool
 |_,[]=>ZB
 |pre,p::l=>UM ops ms p pre&&oC ops ms (pre++[p]) l
def TU(cx:Cx)(ops:Array Oper)(ms:List Nat)(L:List (Nat×Rec))(Iw:List (Nat×Oper)):Bool:=
 oC ops ms [] L&&((L.all fun p=>p.2.o.after.toList.all fun e=>!YZ .any e||(Nat.blt e.on p.1&&(Iw.all fun q=>!ZJ q.1 e.on)))&&
  (Iw.all fun q=>L.all fun p=>mS ms q.1 p.1||aig cx ops (fun k=>!(Iw.any fun q=>ZJ q.1 k) &&!(L.any fun q=>ZJ q.1 k &&!Nat.blt k p.1)) p.1 p.2.o))
def sA(ops:Array Oper):Bool:=(ops.toList.all fun o=>match o.op with|.defer _=>ZC|_=>ZB)&&(gq 0 ops.toList).all fun p=>p.2.after.toList.all fun e=>!YZ .any e||Nat.blt e.on p.1
def avc(o:Oper):Bool:=match o.op with
 |.move _=>ZB
 |.assign _=>ZB
 |.fieldAddr _ _ _=>ZB
 |.indexAddr _ _ _=>ZB
 |.nilCheck _=>ZB
 |.slice _ _ _ _ _=>ZB
 |_=>ZC
def Mp(cl:Iz)(cx:Cx)(ops:Array Oper)(ms:List Nat):Nat->List (Nat×Oper)->St->Kw->(St->Kw->Tr)->Tr
 |0,_,_,_,_=>.stuck 126
 |m+1,C9,s,kw,k=>match mL cx C9 with
   |none=>Ec cx ops (C9.map (·.2)) s kw fun rs s' An=>if TU cx ops ms ((C9.map (·.1)).zip rs) []then k s' An else .stuck 70
   |some (ci,co)=>
     let A:=C9.filter fun p=>!ZJ p.1 ci &&!mS ms p.1 ci;let B:=C9.filter fun p=>mS ms p.1 ci &&!ZJ p.1 ci
     match A.find? (fun p=>!mS ms ci p.1 &&!avc p.2)with
     |none=>Ec cx ops (A.map (·.2)) s kw fun rs s' An=>if TU cx ops ms ((A.map (·.1)).zip rs) ((ci,co)::B)then
      LZ cl cx ops co s' An fun s kw=>Mp cl cx ops ms m B s kw k
       else .stuck 127
     |some _=>.stuck 127
def xF(v:Option V)(id:Nat):Option (Nat×List V):=match v with
 |some (.one (.fn g))=>ZA (g,[.one (.yld id)])
 |some (.one (.clo g fs ps))=>ZA (g,fs.map JC++[.one (.yld id)]++ps.map JC)
 |_=>ZE
def gF(cl:Iz)(rl:Option RlK)(cx:Cx)(fuel:Nat):Code->St->Kw->(Sig->St->Kw->Tr)->Tr
 |.skip,s,kw,k=>k .normal s kw
 |.label _,s,kw,k=>k .normal s kw
 |.region _ ops draw,s,kw,k=>match mL cx (gq 0 ops.toList)with
   |none=>Ec cx ops ops.toList s kw fun rs s' An=>if draw then(if MC ops rs 0 [] []then k .normal s' An else .stuck 70)else k .normal s' An
   |some _=>if draw then if sA ops then Mp cl cx ops (gf ops) (ops.size+1) (gq 0 ops.toList) s kw (k .normal)else .stuck 128 else J5 cl cx ops ops.toList s kw (k .normal)
 |.seq a b,s,kw,k=>match amX b cx.cuts with
   |none=>gF cl rl cx fuel a s kw fun sg s kw=>match sg with
     |.normal=>gF cl rl cx fuel b s kw k
     |sg=>k sg s kw
   |some (id,pls)=>match pls with
     |[.ask]=>gF cl rl cx fuel a s kw fun sg s kw=>match sg with
       |.normal=>.at id s
       |sg=>k sg s kw
     |pls=>match KU kw.vk.length pls (s,[])with
       | some (hd,vks)=>.cut kw.lv kw.vk.length vks
        (gF cl rl cx fuel a s {kw with lv:=kw.lv+1} fun sg s' An=>match sg with
         |.normal=>T7 cx kw.lv kw.vk.length vks hd s.heap.length pls s' An
         |sg=>k sg s' An)
        (gF cl rl cx fuel b hd (kw.head vks) k)
       |none=>.stuck 114
 |.cond c x y,s,kw,k=>match Ia s.n s.tmps c with
   |some (.one (.bool e))=>AL e (fun t kw=>if t then gF cl rl cx fuel x s kw k else gF cl rl cx fuel y s kw k) kw
   |_=>.stuck 71
 |.block id c,s,kw,k=>gF cl rl cx fuel c s kw fun sg s kw=>match sg with
   |.exit i=>if ZJ i id then k .normal s kw else k (.exit i) s kw
   |sg=>k sg s kw
 |.loop c,s,kw,k=>match amX c cx.hints with
   |none=>V2 (gF cl rl cx fuel c) fuel s kw k
   |some (id,pls)=>match pls with
     |[.ask]=>.at id s
     |pls=>match KU kw.vk.length pls (s,[]),NK pls s with
       |some (hd,vks),ZA (θ,ex)=>
         if Mt.ok ⟨kw.vk.length,vks,θ,s.heap.length,ex,hd.heap⟩ cx kw.vk hd.tmps s then
          .loop kw.lv kw.vk.length vks (Cu vks θ) (gF cl rl cx fuel c hd (kw.head vks) fun sg s' An=>match sg with
           |.normal=>T7 cx kw.lv kw.vk.length vks hd s.heap.length pls s' An
           |sg=>k sg s' An)
         else .stuck 112
       |_,_=>.stuck 113
 |.exit id,s,kw,k=>k (.exit id) s kw
 |.ret,s,kw,k=>k .ret s kw
 |.scope c,s,kw,k=>gF cl rl cx fuel c s kw k
 |.rangeFunc f ps assign body,s,kw,k=>match rl,xF (Ia s.n s.tmps f) s.heap.length with
   |some rl,ZA (g,args)=>if Nat.blt g yB&&tX s.heap then
    rl ⟨ps,assign,body,fd s.tmps.old,s.n,cx.hints,cx.cuts⟩ g args ⟨s.tmps,s.heap++[.loop ⟨.ready,ZE⟩]⟩ kw fun _ s' An=>match s'.heap[s.heap.length]? with
     |some (.loop y)=>(match y.st with
       |.busy=>.stuck 201
       |_=>if tX (s'.heap.set s.heap.length .gone)then(match y.pend with
         |none=>k .normal ⟨s'.tmps,s'.heap.set s.heap.length .gone⟩ An
         |some .normal=>.stuck 207
         |some sg=>k sg ⟨s'.tmps,s'.heap.set s.heap.length .gone⟩ An)else .stuck 202)
     |_=>.stuck 203
     else .stuck 204
   |_,_=>.stuck 205
 |_,_,_,_=>.stuck 72
def Sig.exit':Sig->Exit
 |.normal=>.normal
 |.exit id=>.exit id
 |.ret=>.ret
section
variable {P:Program}{sp:Spec}{U:Env}{G:Env->E->Prop}{I:Nat->List Dt->Prop}{cx:Cx}{n:Nat}{X:List Value}{W0:Wb}
structure At(cx:Cx)(U:Env)(n:Nat)(X:List Value)(W0:Wb)(s:St)(j:J)(a:Act)(w:World):Prop where
 rel:Rel U n X W0 cx.fbs s.fs j a w
 len:s.tmps.length=n+X.length
 own:s.n=n
def amV{ops:Array Oper}(i:Nat)(r:Rec)(L:List Rec)(hl:ops.toList=L.map (·.o))(hi:L[i]? =ZA r):ops[i]? =ZA r.o:=by rw[<-lx,hl,jn,hi];rfl
def acl{p:Pl}{x y:St×List VK}(h:OL v0 p x=ZA y):y.1.tmps.length=x.1.tmps.length/\y.1.n=x.1.n:=by
 unfold OL at h;cases p<;>dsimp only at h<;>first
  |(split at h<;>first|(cases h;exact⟨rfl,rfl⟩)|cases h)
  |(rw[Ay]at h;obtain⟨_,_,rfl⟩:=h;exact⟨rfl,rfl⟩)
  |(cases h;exact⟨rfl,rfl⟩)
  |cases h
def kS{v0:Nat}:∀{l:List Pl} {x y:St×List VK},KU v0 l x=ZA y->y.1.tmps.length=x.1.tmps.length/\y.1.n=x.1.n
 |[],x,y,h=>by cases h;exact⟨rfl,rfl⟩
 |p::l,x,y,h=>by simp only[KU,cY]at h;obtain⟨z,h1,h2⟩:=h;rw[(kS h2).1,(kS h2).2,(acl h1).1,(acl h1).2];exact⟨rfl,rfl⟩
def qn{U':Env}{kw:Kw}(hg:Good sp cx.sm U kw)(ha:Ag kw.vk.length U U')(hd:okDs vks (varsD U' kw.vk.length vks)):Good sp cx.sm U' (kw.head vks):=by
 refine⟨fun p hp=> ?_,?_,fun p hp=>by cases hp⟩
 .have h1:=List.mem_filter.1 hp;rw[<-(E.sc_eq ha p.1 (by simpa using h1.2)).2.1];exact hg.pc p h1.1
 .have key:∀(vks:List VK) (n:Nat),okDs vks (varsD U' n vks)->(∀(i:Nat) k,vks[i]? =ZA (.int k)->Ae k (U'.i (n+i))=ZB)/\∀(i:Nat) ks,vks[i]? =ZA (.list ks)->RowsIn ks (U'.l (n+i)):=by
   intro vks
   induction vks with
   |nil=>intro n _;exact⟨fun i k h=>by simp at h,fun i k h=>by simp at h⟩
   |cons x l ih=>
     intro n h;obtain⟨h1,h2⟩:=h;obtain⟨i1,i2⟩:=ih (n+1) h2;refine⟨fun i k hk=> ?_,fun i ks hk=> ?_⟩
     .cases i with
      |zero=>simp at hk;subst hk;exact h1
      |succ i=>have:=i1 i k (by simpa using hk);rwa [show n+(i+1)=n+1+i by omega]
     .cases i with
      |zero=>simp at hk;subst hk;exact h1
      |succ i=>have:=i2 i ks (by simpa using hk);rwa [show n+(i+1)=n+1+i by omega]
  obtain⟨k1,k2⟩:=key vks _ hd;constructor
  .intro i k hk;rcases bt i kw.vk.length with As|DH
   .simp only[Kw.head]at hk;rw[A9 As]at hk;rw[<-(ha i As).1];exact hg.vk.i i k hk
   .simp only[Kw.head]at hk;rw[Bl DH]at hk;have:=k1 _ k hk;rwa [show kw.vk.length+(i-kw.vk.length)=i by omega]at this
  .intro i k hk;rcases bt i kw.vk.length with As|DH
   .simp only[Kw.head]at hk;rw[A9 As]at hk;rw[<-(ha i As).2.2];exact hg.vk.l i k hk
   .simp only[Kw.head]at hk;rw[Bl DH]at hk;have:=k2 _ k hk;rwa [show kw.vk.length+(i-kw.vk.length)=i by omega]at this
def WG(cx:Cx)(n:Nat)(X:List Value)(W0:Wb)(U:Env)(v0:Nat)(vks:List VK)(hd:St)(ds:List Dt)(a:Act)(w:World):Prop:=∃j,∀U',Ag v0 U U'->varsD U' v0 vks=ds->At cx U' n X W0 hd j a w
def rL{U2:Env}{θ:List E}{h0:Nat}{ex:List (Option Nat)}{hd:St}(Al:Mt.ok ⟨v0,vks,θ,h0,ex,hd.heap⟩ cx vk hd.tmps s=ZB)(hv:Vk U2 vk)(hl:hd.tmps.length=n+X.length/\hd.n=n)(ha:Ag v0 U U2)(hr:At cx U2 n X W0 s j a w):
  okDs vks ((Cu vks θ).D U2)/\WG cx n X W0 U v0 vks hd ((Cu vks θ).D U2) a w:=by
 obtain⟨h1,h2⟩:=ac1 Al hv hr.rel;refine⟨h2,_,fun U3 h3 h4=>⟨qj Al (atB (ha.symm.trans h3) h1 h4) hr.rel,hl.1,hl.2⟩⟩
def abt{U2:Env}{lv:Nat}{h0:Nat}{pls:List Pl}{hd:St}{kw:Kw}(h:(T7 cx lv v0 vks hd h0 pls s kw).holds sp G U2 I)(hv:Vk U2 kw.vk)(hl:hd.tmps.length=n+X.length/\hd.n=n)(ha:Ag v0 U U2)(hr:At cx U2 n X W0 s j a w):
  ∃ds,I lv ds/\okDs vks ds/\WG cx n X W0 U v0 vks hd ds a w:=by
 unfold T7 at h;split at h
 .split at h
  next Al=>obtain⟨h1,h2⟩:=rL Al hv hl ha hr;exact⟨_,h,h1,h2⟩
  .exact h.elim
 .exact h.elim
def Tie(sp:Spec)(ry:Option RfS)(X:List Value)(W0:Wb):Prop:=W0.hw=sp.hw/\match ry with
 |none=>True
 |some r=>∃(rf:Rf) (A B:List Value),W0.rf=ZA rf/\rf.ps=r.ps/\rf.assign=r.assign/\rf.body=r.body/\rf.tmps.size=r.len/\X=A++(rf.tmps.toList++B)/\B.length=r.dep
def Tie.more{ry:Option RfS}(h:Tie sp ry X W0)(L:List Value):Tie sp ry (L++X) W0:=by
 cases ry with
 |none=>exact⟨h.1,trivial⟩
 |some r=>obtain⟨h0,rf,A,B,h1,h2,h3,h4,h5,h6,h7⟩:=h;exact⟨h0,rf,L++A,B,h1,h2,h3,h4,h5,by rw[h6,List.append_assoc],h7⟩
structure CallOk(P:Program)(sp:Spec)(G:Env->E->Prop)(cx:Cx)(ry:Option RfS)(cl:Iz):Prop where
 call:∀(g:Nat) (args:List V) (s:St) (kw:Kw) (k:V->St->Kw->Tr) (R:Value->World->Prop) (U:Env) (I:Nat->List Dt->Prop) (n:Nat) (X:List Value) (W0:Wb) (j:J) (a:Act) (w:World) (vals:List Value),g<yB->
  (cl g args s kw k).holds sp G U I->Good sp cx.sm U kw->At cx U n X W0 s j a w->Tie sp ry (a.tmps.toList++X) W0->vals.length=args.length->(∀(i:Nat) x,args[i]? =ZA x->∃u,vals[i]? =ZA u/\x.den U j=ZA u)->
  (∀v s' An U' I' j' w' u,(k v s' An).holds sp G U' I'->Good sp cx.sm U' An->Ag kw.vk.length U U'->(∀m,m<kw.lv->I' m=I m)->kw.lv<=An.lv->kw.vk.length<=An.vk.length->v.den U' j'=ZA u->At cx U' n X W0 s' j' a w'->R u w')->
  (callFunc g vals.toArray).run P w=.ok (.enter g vals.toArray) w/\Calls P g vals.toArray w fun e w'=>∃u,e=.returned u/\R u w'
 yld:∀(id:Nat) (args:List V) (s:St) (kw:Kw) (k:V->St->Kw->Tr) (R:Value->World->Prop) (U:Env) (I:Nat->List Dt->Prop) (n:Nat) (X:List Value) (W0:Wb) (j:J) (a:Act) (w:World) (vals:List Value) (l:Nat),
  (cl (yB+id) args s kw k).holds sp G U I->Good sp cx.sm U kw->At cx U n X W0 s j a w->Tie sp ry X W0->j.g.y id=ZA l->vals.length=args.length->(∀(i:Nat) x,args[i]? =ZA x->∃u,vals[i]? =ZA u/\x.den U j=ZA u)->
  (∀v s' An U' I' j' w' u,(k v s' An).holds sp G U' I'->Good sp cx.sm U' An->Ag kw.vk.length U U'->(∀m,m<kw.lv->I' m=I m)->kw.lv<=An.lv->kw.vk.length<=An.vk.length->v.den U' j'=ZA u->At cx U' n X W0 s' j' a w'->R u w')->
  ∃f tmps assign body,(Instr.yield l vals.toArray).run P w=.ok (.round l f tmps assign body) w/\∀ro,RoundIn (Fw ro) 0 P l f tmps assign body w fun e w'=>∃u,e=.returned u/\R u w'
def J2(P:Program)(sp:Spec)(G:Env->E->Prop)(cx:Cx)(ry:Option RfS)(cl:Iz)(X:List Value)(W0:Wb):Prop:=CallOk P sp G cx ry cl/\Tie sp ry X W0
structure Nx(kw An:Kw)(U U':Env)(I I':Nat->List Dt->Prop):Prop where
 ag:Ag kw.vk.length U U'
 inv:∀m,m<kw.lv->I' m=I m
 lv:kw.lv<=An.lv
 vk:kw.vk.length<=An.vk.length
def Nx.refl(kw:Kw)(U:Env)(I:Nat->List Dt->Prop):Nx kw kw U U I I:=⟨.refl _ _,fun _ _=>rfl,ZK _,ZK _⟩
def Nx.of{kw An:Kw}(h:KwGe An kw)(U:Env)(I:Nat->List Dt->Prop):Nx kw An U U I I:=⟨.refl _ _,fun _ _=>rfl,by rw[h.lv];exact ZK _,h.vk⟩
def Nx.trans{a b c:Kw}{U U' U'':Env}{I I' I'':Nat->List Dt->Prop}(h:Nx a b U U' I I')(h':Nx b c U' U'' I' I''):Nx a c U U'' I I'':=⟨h.ag.trans (h'.ag.mono h.vk),fun m hm=>(h'.inv m (nc hm h.lv)).trans (h.inv m hm),cX h.lv h'.lv,cX h.vk h'.vk⟩
end
open Go
section
variable {P:Program}{sp:Spec}{U:Env}{G:Env->E->Prop}{I:Nat->List Dt->Prop}{cx:Cx}{cl:Iz}{n:Nat}{X:List Value}{W0:Wb}{ops:Array Oper}{ro:Option Nat}{ry:Option RfS}
def At.ev(h:At cx U n X W0 s j a w){x:Operand}{v:V}(hx:Ia s.n s.tmps x=ZA v):v.den U j=ZA (a.eval x):=by refine h.rel.eval (x:=x) ?_;have:=aik s s.le x;rw[h.own]at this hx;rw[this];exact hx
def At.le(h:At cx U n X W0 s j a w):s.n<=s.tmps.length:=s.le
def mO{j:J}:∀{l:List (Option (Bool×Nat×Nat))} {vs:List Value},eZ j l=ZA vs->vs.length=(l.map JC).length/\∀(i:Nat) x,(l.map JC)[i]? =ZA x->∃u,vs[i]? =ZA u/\x.den U j=ZA u
 |[],vs,h=>by cases h;exact⟨rfl,fun i x hx=>by simp at hx⟩
 |c::l,vs,h=>by
   simp only[eZ]at h;cases hc:Eg j c with
   |none=>rw[hc]at h;cases h
   |some v=>
     cases hl:eZ j l with
     |none=>rw[hc,hl]at h;cases h
     |some us=>
       rw[hc,hl]at h;cases h;obtain⟨h1,h2⟩:=mO hl;refine⟨by simp[h1],fun i x hx=> ?_⟩;cases i with
       |zero=>
         simp only[List.map_cons,cy,bv]at hx;subst hx;refine⟨v,rfl,?_⟩
         match c,hc with
         |none,hc=>exact hc
         |some (ZB,b,o),hc=>exact hc
         |some (ZC,b,o),hc=>exact hc
       |succ i=>exact h2 i x Xz
def oO{xs ys:List V}{us vs:List Value}(h1:us.length=xs.length)(h2:∀(i:Nat) x,xs[i]? =ZA x->∃u,us[i]? =ZA u/\x.den U j=ZA u)(h3:∀(i:Nat) x,ys[i]? =ZA x->∃u,vs[i]? =ZA u/\x.den U j=ZA u):
  ∀(i:Nat) x,(xs++ys)[i]? =ZA x->∃u,(us++vs)[i]? =ZA u/\x.den U j=ZA u:=by
 intro i x hx;rcases bt i xs.length with As|DH
 .rw[A9 As]at hx;rw[A9 Fn];exact h2 i x hx
 .rw[Bl DH]at hx;rw[Bl Fn,h1];exact h3 _ x hx
def ahT(CV:J2 P sp G cx ry cl X W0){kw:Kw}{k:St->Kw->Tr}(JQ:g<yB)(h:(KK cl o g args s kw k).holds sp G U I)(hg:Good sp cx.sm U kw)(hr:At cx U n X W0 s j a w)
  (hl:vals.length=args.length) (hd:∀(i:Nat) x,args[i]? =ZA x->∃u,vals[i]? =ZA u/\x.den U j=ZA u) {K:Act->World->Prop}
  (hK:∀s' An U' I' j' a' w',(k s' An).holds sp G U' I'->Good sp cx.sm U' An->Nx kw An U U' I I'->At cx U' n X W0 s' j' a' w'->K a' w'):
  (callFunc g vals.toArray).run P w=.ok (.enter g vals.toArray) w/\Calls P g vals.toArray w fun e w'=>∃u,e=.returned u/\K (a.put o.dst u) w':=by
 refine CV.1.call g args s kw _ (fun u w'=>K (a.put o.dst u) w') U I n X W0 j a w vals JQ h hg hr (CV.2.more _) hl hd (fun v s' An U' I' j' w' u h' CQ ha hI K0 QM hv AU=> ?_);have M6:Nx kw An U U' I I':=⟨ha,hI,K0,QM⟩
 split at h'
 next GK=>rw[GK];exact hK s' An U' I' j' _ w' h' CQ M6 AU
 .rename_i d GK;split at h'
  .rename_i As;have KO:d<s'.n:=by simpa[Nat.blt_eq]using As
   refine hK _ An U' I' j' _ w' h' CQ M6 ⟨?_,AU.len,AU.own⟩;have h1:=AU.rel.put (dst:=o.dst) hv (fun d' Ie=>by rw[GK]at Ie;cases Ie;rw[<-AU.own];exact KO);rw[GK]at h1 ⊢;have e:(St.mk (s'.tmps.set d v) s'.heap).fs=s'.fs.put (ZA d) v:=by
    refine Fz.ext' (fun t=> ?_) (fun _=>rfl) (fun _=>rfl) (fun _=>rfl);simp only[Fz.put,St.fs,Ax,TM.get_set s'.tmps v KO];by_cases ht:d=t
    .subst ht;simp
    .simp[ht]
   rw[e];exact h1
  .exact h'.elim
def aqD(CV:J2 P sp G cx ry cl X W0){id l:Nat}{kw:Kw}{k:St->Kw->Tr}(h:(KK cl o (yB+id) args s kw k).holds sp G U I)(hg:Good sp cx.sm U kw)(hr:At cx U n X W0 s j a w)
  (hl:vals.length=args.length) (MG:j.g.y id=ZA l) (hd:∀(i:Nat) x,args[i]? =ZA x->∃u,vals[i]? =ZA u/\x.den U j=ZA u) {K:Act->World->Prop}
  (hK:∀s' An U' I' j' a' w',(k s' An).holds sp G U' I'->Good sp cx.sm U' An->Nx kw An U U' I I'->At cx U' n X W0 s' j' a' w'->K a' w'):
  ∃f tmps assign body,(Instr.yield l vals.toArray).run P w=.ok (.round l f tmps assign body) w/\∀ro,RoundIn (Fw ro) 0 P l f tmps assign body w fun e w'=>∃u,e=.returned u/\K (a.put o.dst u) w':=by
 refine CV.1.yld id args s kw _ (fun u w'=>K (a.put o.dst u) w') U I n X W0 j a w vals l h hg hr CV.2 MG hl hd (fun v s' An U' I' j' w' u h' CQ ha hI K0 QM hv AU=> ?_);have M6:Nx kw An U U' I I':=⟨ha,hI,K0,QM⟩
 split at h'
 next GK=>rw[GK];exact hK s' An U' I' j' _ w' h' CQ M6 AU
 .rename_i d GK;split at h'
  .rename_i As;have KO:d<s'.n:=by simpa[Nat.blt_eq]using As
   refine hK _ An U' I' j' _ w' h' CQ M6 ⟨?_,AU.len,AU.own⟩;have h1:=AU.rel.put (dst:=o.dst) hv (fun d' Ie=>by rw[GK]at Ie;cases Ie;rw[<-AU.own];exact KO);rw[GK]at h1 ⊢;have e:(St.mk (s'.tmps.set d v) s'.heap).fs=s'.fs.put (ZA d) v:=by
    refine Fz.ext' (fun t=> ?_) (fun _=>rfl) (fun _=>rfl) (fun _=>rfl);simp only[Fz.put,St.fs,Ax,TM.get_set s'.tmps v KO];by_cases ht:d=t
    .subst ht;simp
    .simp[ht]
   rw[e];exact h1
  .exact h'.elim
def alg{U U':Env}(h:Ag v0 U U'):Giv v0 [] [] U U':=⟨h,fun m k t hk=>by simp at hk,fun m t hk=>by simp at hk,fun m ks t hk=>by simp at hk⟩
def rU{y:Operand}(h:qm y=ZB)(a:Act):a.eval y=.slice ZE 0 0:=by
 unfold qm at h;split at h
 .rfl
 .exact Xo
def apU(hT:∀t i,(t,i)∈cx.ty->TIok P t i){xt yt:Nat}{x y:Operand}{id:Nat}{kw:Kw}{k:St->Kw->Tr}(Ad:o.op=.binOp .eql xt x y yt)(hy:qm y=ZB)(Av:Ia s.n s.tmps x=ZA (.one (.sl id)))(h:(Po cx o xt id s kw k).holds sp G U I)(hg:Good sp cx.sm U kw)(hr:At cx U n X W0 s j a w){K:Act->World->Prop}{Q:Exit->Act->World->Prop}(hK:∀s' An U' I' j' a' w',(k s' An).holds sp G U' I'->Good sp cx.sm U' An->Nx kw An U U' I I'->At cx U' n X W0 s' j' a' w'->K a' w'):o.wp P a w K Q:=by
 unfold Po at h;split at h
 .rename_i r i hq hi;split at h
  .rename_i hc;simp only[ne]at hc;obtain⟨DP,Gp,Al⟩:=hc;obtain⟨et,Mf⟩:=Option.isSome_iff_exists.1 Gp;have hu:=(hT _ _ (ab hi)).sle et Mf;have hx:=hr.ev Av;obtain⟨sv,hs,hv⟩:∃sv:SV,j.s id=ZA sv/\a.eval x=sv.v:=by
    simp only[V.den,C.den,Ay]at hx;obtain⟨sv,h1,h2⟩:=hx;exact⟨sv,h1,h2.symm⟩
   obtain⟨U',ha,hz,hh⟩:=h (if sv.a.isNone then 0 else 1) (by split<;>decide);have AU:At cx U' n X W0 s ((ao0 s kw).J j) a w:=⟨qj Al (alg ha) hr.rel,hr.len,hr.own⟩
   have S7:(O3 r.l kw.vk.length).B U'=ZB:=by
    have F9:=AU.ev Av;simp only[V.den,C.den,Ay]at F9;obtain⟨sv',h1,h2⟩:=F9;obtain⟨sv2,h3,h4⟩:=AU.rel.row id r (iL (by rw[nt];exact hq));rw[h1]at h3;cases h3;have hkd':r.kd=.sl:=by
     cases hd:r.kd with
     |sl=>rfl
     |_=>rw[hd]at DP;cases DP
    have h5:=h4.1 hkd';have h6:=h5.n;have h7:=h5.rd.2.2.2.1;rw[hv]at h2;obtain⟨sa,sn,sc,sz⟩:=sv;obtain⟨ta,tn,tc,tz⟩:=sv';simp only[SV.v,Value.slice.injEq]at h2;obtain⟨rfl,rfl,rfl⟩:=h2;simp only[O3,E.B,E.I,hz,dP,<-h6];cases ta with
    |none=>have h8:=(h7 rfl).1;simp only at h8;subst h8;simp
    |some q=>simp
   have hh':=hh S7;split at hh'
   .rename_i s' Bj;obtain⟨e1,e2,e3,_,_,_⟩:=St.app_ok hr.le Bj;have Cv:(execOp a.eval o).run P w=.ok (.value (.bool sv.a.isNone)) w:=by
     obtain⟨sa,sn,sc,sz⟩:=sv;have h1:=Go.Lib.run_eql_slice_nil (P:=P) w xt et sa sn sc 0 0 hu;simp only[execOp,Ad,hv,rU hy,SV.v,eqGuard,ZI];exact congrArg (fun r=>Result.andThen r fun a w'=>Result.ok (Next.value a) w') h1
    refine dT Cv (hK s' _ U' I ((ao0 s kw).J j) _ _ hh' (qn hg ha ⟨?_,trivial⟩) ⟨ha,fun _ _=>rfl,by simp[Kw.head],by simp[Kw.head]⟩ ⟨?_,by rw[e2.1];exact hr.len,by rw[e2.2];exact hr.own⟩)
    .show Ae .i64 (U'.i kw.vk.length)=ZB;rw[hz];split<;>decide
    .rw[e1];refine AU.rel.put ?_ (fun d hd=>by rw[<-hr.own];exact e3 d hd);simp only[V.den,C.den,E.B,E.I,hz];cases sv.a<;>rfl
   .exact hh'.elim
  .exact h.elim
 .exact h.elim
def am3(hT:∀t i,(t,i)∈cx.ty->TIok P t i)(CV:J2 P sp G cx ry cl X W0){kw:Kw}{k:St->Kw->Tr}(h:(Vl cl cx o s kw k).holds sp G U I)(hg:Good sp cx.sm U kw)(hr:At cx U n X W0 s j a w){K:Act->World->Prop}{Q:Exit->Act->World->Prop}(hK:∀s' An U' I' j' a' w',(k s' An).holds sp G U' I'->Good sp cx.sm U' An->Nx kw An U U' I I'->At cx U' n X W0 s' j' a' w'->K a' w'):o.wpIn (Fw ro) 0 P a w K Q:=by
 unfold Vl at h;split at h
 .rename_i xt x y yt Ad;split at h
  .rename_i hy;split at h
   next id hx=>exact ku (by simp[Ad]) (apU hT Ad hy hx h hg hr hK)
   .rename_i hx;split at h
    .rename_i i hi;split at h
     .rename_i Gp;split at h
      .rename_i s' Bj;obtain⟨et,Mf⟩:=Option.isSome_iff_exists.1 Gp;have hu:=(hT _ _ (ab hi)).sle et Mf;obtain⟨e1,e2,e3,_,_,_⟩:=St.app_ok hr.le Bj;have hv:a.eval x=.slice ZE 0 0:=(ZN (hr.ev hx)).symm;have Cv:(execOp a.eval o).run P w=.ok (.value (.bool ZB)) w:=by
        have h1:=Go.Lib.run_eql_slice_nil (P:=P) w xt et ZE 0 0 0 0 hu;simp only[execOp,Ad,hv,rU hy,eqGuard,ZI];exact congrArg (fun r=>Result.andThen r fun a w'=>Result.ok (Next.value a) w') h1
       refine ku (by simp[Ad]) (dT Cv (hK s' kw U I j _ w h hg (.of (.refl _) _ _) ⟨?_,by rw[e2.1];exact hr.len,by rw[e2.2];exact hr.own⟩));rw[e1];exact hr.rel.put rfl (fun d hd=>by rw[<-hr.own];exact e3 d hd)
      .exact h.elim
     .exact h.elim
    .exact h.elim
   .exact h.elim
  .exact h.elim
 .rename_i c Ad;split at h
  .rename_i f hc;have run:∀(g:Nat) (vals:List Value),(execOp a.eval o).run P w=(callFunc g vals.toArray).run P w->((callFunc g vals.toArray).run P w=.ok (.enter g vals.toArray) w/\Calls P g vals.toArray w fun e w'=>∃u,e=.returned u/\K (a.put o.dst u) w')->o.wpIn (Fw ro) 0 P a w K Q:=by
    intro g vals h6 ⟨h7,h8⟩;refine ku (by simp[Ad]) ?_;unfold Oper.wp;rw[h6,h7];show Calls P g _ w _;refine h8.mono ?_;rintro e' w' ⟨u,rfl,hk⟩;exact hk
   split at h
   .rename_i g args hf hl;split at h<;>first|exact h.elim|skip
    rename_i JQ;have JQ:g<yB:=by simpa[Nat.blt_eq]using JQ
    obtain⟨h1,h2⟩:=jg (U:=U) (j:=j) (a:=a) hl (fun x _ v hv=>hr.ev hv);have h4:=hr.ev hf;have h5:a.eval f=.func (.func g) #[] #[]:=(ZN h4).symm;refine run g (c.args.toList.map a.eval) ?_ (ahT CV JQ h hg hr XR (fun i x hx=> ?_) hK)
    .have h7:c.args.map a.eval=(c.args.toList.map a.eval).toArray:=by rw[<-fL]
     rw[<-h7];simp only[execOp,Ad,resolve,hc,h5,Deferred.ofValue,ZI,Sem.run_pure,Result.andThen_ok,invoke,Array.empty_append,Array.append_empty]
    .have As:i<(c.args.toList.map a.eval).length:=by
      have:=(cZ.1 hx).1;rw[h2];exact this
     exact⟨_,AH As,h1 i x _ hx (AH As)⟩
   .rename_i g fs ps args hf hl;split at h<;>first|exact h.elim|skip
    rename_i JQ;have JQ:g<yB:=by simpa[Nat.blt_eq]using JQ
    obtain⟨h1,h2⟩:=jg (U:=U) (j:=j) (a:=a) hl (fun x _ v hv=>hr.ev hv);obtain⟨x,y,hx,hy,h5⟩:=gu (show FC g (eZ j fs) (eZ j ps)=ZA (a.eval f)from hr.ev hf);obtain⟨e1,e2⟩:=mO (U:=U) hx;obtain⟨e3,e4⟩:=mO (U:=U) hy;have e5:∀(i:Nat) z,args[i]? =ZA z->∃u,(c.args.toList.map a.eval)[i]? =ZA u/\z.den U j=ZA u:=fun i z hz=>by
     have As:i<(c.args.toList.map a.eval).length:=by have:=(cZ.1 hz).1;rw[h2];exact this
     exact⟨_,AH As,h1 i z _ hz (AH As)⟩
    refine run g (x++c.args.toList.map a.eval++y) ?_ (ahT CV JQ h hg hr (by simp only[eg,e1,e3,h2]) (oO (by simp only[eg,e1,h2]) (oO e1 e2 e5) e4) hK);have h7:c.args.map a.eval=(c.args.toList.map a.eval).toArray:=by rw[<-fL]
    have h8:(x++c.args.toList.map a.eval++y).toArray=x.toArray++c.args.map a.eval++y.toArray:=by rw[h7];simp
    rw[h8];simp only[execOp,Ad,resolve,hc,h5,Deferred.ofValue,ZI,Sem.run_pure,Result.andThen_ok,invoke]
   .rename_i id args hf hl;obtain⟨h1,h2⟩:=jg (U:=U) (j:=j) (a:=a) hl (fun x _ v hv=>hr.ev hv);have h4:(j.g.y id).map (fun l=>Value.func (.yield l) #[] #[])=ZA (a.eval f):=hr.ev hf;rw[Ay]at h4;obtain⟨l,MG,h5⟩:=h4;obtain⟨f',Sb,Md,Tx,h6,h7⟩:=aqD CV h hg hr (vals:=c.args.toList.map a.eval) XR MG (fun i x hx=>by
     have As:i<(c.args.toList.map a.eval).length:=by have:=(cZ.1 hx).1;rw[h2];exact this
     exact⟨_,AH As,h1 i x _ hx (AH As)⟩) hK
    have h8:c.args.map a.eval=(c.args.toList.map a.eval).toArray:=by rw[<-fL]
    refine⟨fun _ _=>trivial,?_⟩;rw[Oper.semAt_eq _ _ _ (by simp[Ad])];have h9:(execOp a.eval o).run P w=.ok (.round l f' Sb Md Tx) w:=by rw[<-h6,<-h8];simp only[execOp,Ad,resolve,hc,<-h5,Deferred.ofValue,ZI,Sem.run_pure,Result.andThen_ok,invoke,Array.empty_append,Array.append_empty]
    rw[h9];refine⟨Um,(h7 ro).mono ?_⟩;rintro e' w' ⟨u,rfl,hk⟩;exact hk
   .exact h.elim
  .exact h.elim
 .rename_i x Ad;split at h
  next id mid hx=>exact h.elim
  .exact h.elim
 .exact h.elim
def amz{rs:List Rec}(h:rs.map (·.o)=[o]):∃r,rs=[r]:=by
 cases rs with
 |nil=>cases h
 |cons r l=>cases l with
   |nil=>exact⟨r,rfl⟩
   |cons=>simp at h
def aar(ho:ops[i]? =ZA o){kw:Kw}{k:St->Kw->Tr}(h:(UC o s kw k).holds sp G U I)(hg:Good sp cx.sm U kw)(hr:At cx U n X W0 s j a w)(hw:Region.wanted o (yielded ops a.tmps)=ZC){K:Act->World->Prop}{Q:Exit->Act->World->Prop}(hK:∀s' An U' I' j' a' w',(k s' An).holds sp G U' I'->Good sp cx.sm U' An->Nx kw An U U' I I'->At cx U' n X W0 s' j' a' w'->K a' w'):wpOpIn (Fw ro) 0 P ops Q i K a w:=by
 unfold UC at h;split at h
 next s' Bj=>obtain⟨e1,e2,e3,_,_,_⟩:=St.app_ok hr.le Bj;unfold wpOpIn;simp only[ho,hw];refine⟨fun _ _=>trivial,hK s' kw U I j _ w h hg (.refl _ _ _) ⟨?_,by rw[e2.1];exact hr.len,by rw[e2.2];exact hr.own⟩⟩;rw[e1];exact hr.rel.put rfl (fun d hd=>by rw[<-hr.own];exact e3 d hd)
 .exact h.elim
def aiU(hT:∀t i,(t,i)∈cx.ty->TIok P t i)(hS:∀s∈cx.sm,SmOk P sp s)(AR:∀s∈cx.sm,∀s'∈cx.sm,s.key=s'.key->s=s')(CV:J2 P sp G cx ry cl X W0)(ho:ops[i]? =ZA o){kw:Kw}{k:St->Kw->Tr}(h:(LZ cl cx ops o s kw k).holds sp G U I)(hg:Good sp cx.sm U kw)(hr:At cx U n X W0 s j a w){K:Act->World->Prop}{Q:Exit->Act->World->Prop}(hK:∀s' An U' I' j' a' w',(k s' An).holds sp G U' I'->Good sp cx.sm U' An->Nx kw An U U' I I'->At cx U' n X W0 s' j' a' w'->K a' w'):wpOpIn (Fw ro) 0 P ops Q i K a w:=by
 unfold LZ at h;split at h
 .obtain⟨rs,s',An,h1,g1,l1,h2,h3,h4,h5⟩:=nD (P:=P) (base:=W0.heap.size) hT hS AR CV.2.1.symm [o] s kw _ h hg hr.le;obtain⟨r,rfl⟩:=amz h2;have e2:r.o=o:=XR;have h6:=h5 0 r rfl;rw[hr.own]at h6;subst e2;refine mq hr.rel h6 ho (fun j' a' w' h'=>hK s' An U I j' a' w' h1 g1 (.of l1 _ _) ⟨?_,by rw[h4.1];exact hr.len,by rw[h4.2];exact hr.own⟩);rw[h3];exact h'
 .split at h
  next Ih=>unfold wpOpIn;simp only[ho,Region.wanted,Ih,if_true];exact am3 hT CV h hg hr hK
  .rename_i g b Ih;have H6:∀v,((ops[g]?).bind (·.dst)).bind (fun t=>if Nat.blt t s.n then s.tmps.get? t else ZE)=ZA v->∃t,(ops[g]?).bind (·.dst)=ZA t/\t<n/\s.fs.tmp t=v:=by
    intro v h;rw[cY]at h;obtain⟨t,h1,h2⟩:=h;split at h2
    next ht=>refine⟨t,h1,?_,by simp[St.fs,Ax,h2]⟩;rw[<-hr.own];simpa[Nat.blt_eq]using ht
    .exact XU
   split at h
   .rename_i e he;obtain⟨t,h1,h2,h3⟩:=H6 _ he;obtain⟨h4,-⟩:=mW hr.rel h1 h2;have h5:=h4 e h3;obtain⟨Ch,h6,g6,v6,l6⟩:=aS _ _ _ h hg;have M6:Nx kw Ch U U I I:=.of l6 _ _;have hw:Region.wanted o (yielded ops a.tmps)=(e.B U==b):=by
     simp only[Region.wanted,Ih,h5];cases e.B U<;>cases b<;>rfl
    split at h6
    next hb=>unfold wpOpIn;simp only[ho,hw,hb,if_true];exact(am3 hT CV h6 g6 hr (fun s' An U' I' j' a' w' q1 q2 q3 q4=>hK s' An U' I' j' a' w' q1 q2 (M6.trans q3) q4))
    next hb=>exact aar ho h6 g6 hr (by rw[hw];simpa using hb) (fun s' An U' I' j' a' w' q1 q2 q3 q4=>hK s' An U' I' j' a' w' q1 q2 (M6.trans q3) q4)
   next he=>obtain⟨t,h1,h2,h3⟩:=H6 _ he;obtain⟨-,h4⟩:=mW hr.rel h1 h2;refine aar ho h hg hr ?_ hK;simp only[Region.wanted,Ih,h4 h3];rfl
   .exact h.elim
def agH(hT:∀t i,(t,i)∈cx.ty->TIok P t i)(hS:∀s∈cx.sm,SmOk P sp s)(AR:∀s∈cx.sm,∀s'∈cx.sm,s.key=s'.key->s=s')(CV:J2 P sp G cx ry cl X W0){Q:Exit->Act->World->Prop}:
  ∀(l:List Oper) (i:Nat),(∀(m:Nat) o,l[m]? =ZA o->ops[i+m]? =ZA o)->∀(s:St) (kw:Kw) (k:St->Kw->Tr) (U:Env) (I:Nat->List Dt->Prop) (j:J) (a:Act) (w:World),(J5 cl cx ops l s kw k).holds sp G U I->Good sp cx.sm U kw->At cx U n X W0 s j a w->
   (∀s' An U' I' j' a' w',(k s' An).holds sp G U' I'->Good sp cx.sm U' An->Nx kw An U U' I I'->At cx U' n X W0 s' j' a' w'->Q .normal a' w')->wpOpsIn (Fw ro) 0 P ops Q (List.range' i l.length) a w
 |[],i,hi,s,kw,k,U,I,j,a,w,h,hg,hr,hK=>by simp only[List.length_nil,List.range'_zero,wpOpsIn];exact hK s kw U I j a w h hg (.refl _ _ _) hr
 |o::l,i,hi,s,kw,k,U,I,j,a,w,h,hg,hr,hK=>by
   simp only[YS,List.range'_succ];rw[wpOpsIn_cons];have ho:ops[i]? =ZA o:=hi 0 o rfl;have tail:∀s' An U' I' j' a' w',(J5 cl cx ops l s' An k).holds sp G U' I'->Good sp cx.sm U' An->Nx kw An U U' I I'->At cx U' n X W0 s' j' a' w'->wpOpsIn (Fw ro) 0 P ops Q (List.range' (i+1) l.length) a' w':=
    fun s' An U' I' j' a' w' q1 q2 q3 q4=>agH hT hS AR CV l (i+1) (fun m o hm=>by rw[YW,Nat.add_comm 1 m];exact hi (m+1) o XT) s' An k U' I' j' a' w' q1 q2 q4
     (fun s2 Dy U2 I2 j2 a2 w2 p1 p2 p3 p4=>hK s2 Dy U2 I2 j2 a2 w2 p1 p2 (q3.trans p3) p4)
   simp only[J5]at h;split at h
   .exact aiU hT hS AR CV ho h hg hr tail
   .obtain⟨rs,s',An,h1,g1,l1,h2,h3,h4,h5⟩:=nD (P:=P) (base:=W0.heap.size) hT hS AR CV.2.1.symm [o] s kw _ h hg hr.le;obtain⟨r,rfl⟩:=amz h2;have e2:r.o=o:=XR;have h6:=h5 0 r rfl;rw[hr.own]at h6;subst e2;refine mq hr.rel h6 ho (fun j' a' w' h'=>tail s' An U I j' a' w' h1 g1 (.of l1 _ _) ⟨?_,by rw[h4.1];exact hr.len,by rw[h4.2];exact hr.own⟩);rw[h3];exact h'
end
section
variable {P:Program}{sp:Spec}{U:Env}{G:Env->E->Prop}{I:Nat->List Dt->Prop}{cx:Cx}{cl:Iz}{n:Nat}{X:List Value}{W0:Wb}{ro:Option Nat}{ry:Option RfS}{ops:Array Oper}
def oM:∀(l:List Oper) (k i:Nat) (p:Nat×Oper),(gq k l)[i]? =ZA p->p.1=k+i/\l[i]? =ZA p.2
 |[],k,i,p,h=>by simp[gq]at h
 |o::l,k,i,p,h=>by
   cases i with
   |zero=>simp only[gq,cy,bv]at h;subst h;exact⟨rfl,rfl⟩
   |succ i=>have:=oM l (k+1) i p (by simpa[gq]using h);exact⟨by omega,by simpa using this.2⟩
def qu:∀(l:List Oper) (k:Nat),(gq k l).length=l.length
 |[],_=>rfl
 |_::l,k=>by simp[gq,qu l (k+1)]
def qv:∀(l:List Oper) (k:Nat),(gq k l).map (·.1)=List.range' k l.length
 |[],_=>rfl
 |_::l,k=>by simp[gq,qv l (k+1),List.range'_succ]
def akC{k:Nat}(h:ops[k]? =ZA o):(k,o)∈gq 0 ops.toList:=by
 have hk:k<ops.toList.length:=by have:=(hG.1 h).1;simpa using this
 have hl:k<(gq 0 ops.toList).length:=by rw[qu];exact hk
 have h1:=AH hl;obtain⟨e1,e2⟩:=oM _ _ _ _ h1;have e3:ops.toList[k]? =ZA o:=by rw[lx];exact h
 rw[e3]at e2;have:(gq 0 ops.toList)[k]=(k,o):=Prod.ext Fn (ZN e2).symm;rw[<-this];exact List.getElem_mem hl
def aio{p:Nat×Oper}(h:p∈gq 0 ops.toList):ops[p.1]? =ZA p.2:=by obtain⟨i,hi⟩:=List.getElem?_of_mem h;obtain⟨h1,h2⟩:=oM _ 0 i p hi;rw[h1,bJ,<-lx];exact h2
def xh{l:List (Nat×Oper)}{p:Nat×Oper}(h:mL cx l=ZA p):p∈l:=by
 induction l with
 |nil=>cases h
 |cons q l ih=>
   rw[mL]at h;by_cases hb:WW cx q.2=ZB
   .rw[if_pos hb]at h;rw[<-ZN h];exact bR
   .rw[if_neg hb]at h;exact cM _ (ih h)
def wN:∀(l:List Oper) (ms:List Nat),(l.foldl (fun ms o=>ms++[jd o ms]) ms).length=ms.length+l.length
 |[],ms=>rfl
 |o::l,ms=>by simp only[ZW,wN l,eg,YS,List.length_nil];omega
def aby:∀(l:List Oper) (ms:List Nat) (i:Nat),(i<ms.length->(l.foldl (fun ms o=>ms++[jd o ms]) ms)[i]? =ms[i]?)/\
  ∀o,l[i]? =ZA o->∃pre,pre.length=ms.length+i/\(∀k,k<pre.length->(l.foldl (fun ms o=>ms++[jd o ms]) ms)[k]? =pre[k]?)/\(l.foldl (fun ms o=>ms++[jd o ms]) ms)[ms.length+i]? =ZA (jd o pre)
 |[],ms,i=>⟨fun _=>rfl,fun o h=>by simp at h⟩
 |o::l,ms,i=>by
   simp only[ZW];have ih:=aby l (ms++[jd o ms]);refine⟨fun h=>by rw[(ih i).1 XC,A9 h],fun o' h=> ?_⟩;cases i with
   |zero=>simp only[cy,bv]at h;subst h;refine⟨ms,rfl,fun k hk=>by rw[(ih k).1 XC,A9 hk],?_⟩;rw[ZS,(ih ms.length).1 (by simp),Bl (ZK _)];simp
   |succ i=>obtain⟨pre,h1,h2,h3⟩:=(ih i).2 o' Xx;simp only[eg,YS,List.length_nil]at h1 h3;exact⟨pre,by omega,h2,by rw[show ms.length+(i+1)=ms.length+(0+1)+i by omega];exact h3⟩
def jY:∀(i k:Nat),mS (gf ops) i k=ZB->ai5 ops k i:=by
 intro i
 induction i using Nat.strongRecOn with
 |_ i ih=>
   intro k hk A7 hc hd;unfold mS at hk;cases ho:ops.toList[i]? with
   |none=>have DH:=List.getElem?_eq_none_iff.1 ho;rw[bV,cf (by unfold gf;rw[wN];simp at DH ⊢;omega)]at hk;simp at hk
   |some o=>
     obtain⟨pre,h1,h2,h3⟩:=(aby ops.toList [] i).2 o ho;simp only[List.length_nil,bJ]at h1 h3;rw[bV,show(gf ops)[i]? =ZA (jd o pre)from h3]at hk;have Vx:ops[i]? =ZA o:=by rw[<-lx];exact ho
     rcases uf _ 0 hk with h4|⟨e,h4,h5,h6⟩
     .simp at h4
     .have R3:e∈o.after:=by simpa using h4
      have hs:=hd o Vx e R3 h5;rcases h6 with rfl|h6
      .exact hs
      .have As:e.on<pre.length:=by
        rcases bt e.on pre.length with h7|h7
        .exact h7
        .rw[bV,cf h7]at h6;simp at h6
       have h7:mS (gf ops) e.on k=ZB:=by unfold mS;rw[bV,show(gf ops)[e.on]? =pre[e.on]? from h2 e.on As,<-bV];exact h6
       exact ih e.on Fn k h7 A7 hc (fun o' GS e' Ic Ew=>hc e.on o' GS hs e' Ic Ew)
def alj(hT:∀t i,(t,i)∈cx.ty->TIok P t i){A7 sel':Nat->Bool}(h:aig cx ops A7 i o=ZB)(Cw:∀k,k<ops.size->A7 k=ZB->k≠i->sel' k=ZB):Float P ops sel' i o:=by
 simp only[aig,ne]at h;obtain⟨h1,h2,h3,h4⟩:=h;refine⟨fun a w K hw=> ?_,by simpa using h1,h3,fun k ok hk BM hs SS=> ?_⟩
 rotate_left
 .have Kp:k<ops.size:=(hG.1 hk).1;have hm:(k,ok)∈gq 0 ops.toList:=akC hk;have h5:=Ct.1 h4 (k,ok) hm;simp only[fk]at h5;rcases h5 with h5|h5|h5|h5
  .exact absurd (Ak h5) BM
  .rw[Cw k Kp h5 BM]at hs;cases hs
  .obtain⟨e,he,hb⟩:=List.any_eq_true.1 h5;rw[ne]at hb;exact absurd (Ak hb.2) (SS e YE hb.1)
  .exact h5
 split at h2
 next x Ad=>exact rt (.inl Ad) a
 next x Ad=>exact rt (.inr Ad) a
 .rename_i s x f Ad;split at h2
  next ti RO=>obtain⟨p,hp⟩:=Option.isSome_iff_exists.1 h2;exact yb Ad (hT _ _ (ab RO)) (off:=p.1) (ft:=p.2) hp hw
  .exact XU
 next t x y Ad=>exact ya Ad hw
 next x Ad=>exact aeL Ad hw
 next t x l h' m Ad=>exact xZ Ad hw
 .exact XU
def agV{ms:List Nat}{p:Nat×Rec}{l:List (Nat×Rec)}(h:UM ops ms p l=ZB)(q:Nat×Rec)(hq:q∈l):mS ms p.1 q.1=ZB\/Indep ops q.2 p.2:=by
 induction l with
 |nil=>cases hq
 |cons x l ih=>
   rw[UM,ne,fk]at h;rcases YT.1 hq with e|hq
   .rw[e];exact h.1.imp id abK
   .exact ih h.2 hq
def pz{ms:List Nat}:∀{l pre:List (Nat×Rec)},oC ops ms pre l=ZB->∀(m q:Nat) x r,m<q->pre.length<=q->(pre++l)[m]? =ZA x->(pre++l)[q]? =ZA r->mS ms r.1 x.1=ZB\/Indep ops x.2 r.2
 |[],pre,_,m,q,x,r,hm,hq,hx,hr=>by rw[List.append_nil,cf hq]at hr;cases hr
 |p::l,pre,h,m,q,x,r,hm,hq,hx,hr=>by
   simp only[oC,ne]at h;rcases bt pre.length q with h1|h1
   .exact pz h.2 m q x r hm XC Xz (by simpa using hr)
   .have:q=pre.length:=by omega
    subst this;rw[Bl (ZK _)]at hr;simp only[Nat.sub_self,cy,bv]at hr;subst hr;rw[A9 hm]at hx;exact agV h.1 x (fD hx)
def adH:∀{A:List (Nat×Oper)} {rs:List Rec},rs.map (·.o)=A.map (·.2)->∀(m:Nat) p,((A.map (·.1)).zip rs)[m]? =ZA p->A[m]? =ZA (p.1,p.2.o)/\rs[m]? =ZA p.2
 |[],rs,_,m,p,hp=>by simp at hp
 |a::A,[],h,m,p,hp=>by simp at h
 |a::A,r::rs,h,m,p,hp=>by
   simp only[List.map_cons,Be]at h;cases m with
   |zero=>simp only[List.map_cons,List.zip_cons_cons,cy,bv]at hp;subst hp;exact⟨by rw[h.1];rfl,rfl⟩
   |succ m=>exact adH h.2 m p (by simpa using hp)
def xC:∀{A:List (Nat×Oper)} {rs:List Rec},rs.map (·.o)=A.map (·.2)->((A.map (·.1)).zip rs).map (·.1)=A.map (·.1)
 |[],rs,_=>by simp
 |a::A,[],h=>by simp at h
 |a::A,r::rs,h=>by simp only[List.map_cons,Be]at h;simp[xC h.2]
def sG:∀{A:List (Nat×Oper)} {rs:List Rec} (F:Fz),rs.map (·.o)=A.map (·.2)->∀m,qX (((A.map (·.1)).zip rs).take m) F=Cm (rs.take m) F
 |[],[],F,_,m=>by simp[qX,Cm]
 |[],r::rs,F,h,m=>by simp at h
 |a::A,[],F,h,m=>by simp at h
 |a::A,r::rs,F,h,m=>by
   simp only[List.map_cons,Be]at h;cases m with
   |zero=>rfl
   |succ m=>simp only[List.map_cons,List.zip_cons_cons,List.take_succ_cons,qX,Cm,ZW];exact sG (F.rec' r) h.2 m
def aq9(h:sA ops=ZB)(ho:ops[i]? =ZA o):∀e∈o.after,YZ .any e=ZB->e.on<i:=by
 intro e he hb;have hm:(i,o)∈gq 0 ops.toList:=by
  have As:=(hG.1 ho).1;have:i<(gq 0 ops.toList).length:=by rw[qu];simpa using As
  have h1:=AH this;obtain⟨h2,h3⟩:=oM _ 0 i _ h1;rw[<-lx]at ho;rw[ho]at h3;have:(gq 0 ops.toList)[i]=(i,o):=Prod.ext (by rw[h2,bJ]) (ZN h3).symm;rw[<-this];exact List.getElem_mem _
 unfold sA at h;rw[ne]at h;have:=Ct.1 (Ct.1 h.2 _ hm) e YE;simpa[hb,Nat.blt_eq]using this
def acZ(h:sA ops=ZB)(j:Nat)(o:Oper)(c:Call)(ho:ops[j]? =ZA o):o.op≠.defer c:=by unfold sA at h;rw[ne]at h;have:=Ct.1 h.1 o (by rw[<-lx]at ho;exact fD ho);intro e;rw[e]at this;cases this
def apt(hT:∀t i,(t,i)∈cx.ty->TIok P t i)(hS:∀s∈cx.sm,SmOk P sp s)(AR:∀s∈cx.sm,∀s'∈cx.sm,s.key=s'.key->s=s')(CV:J2 P sp G cx ry cl X W0)(hb:sA ops=ZB){Q:Exit->Act->World->Prop}(hQ:∀c a w,¬Q (.panic c) a w):
  ∀(m:Nat) (C9:List (Nat×Oper)) (s:St) (kw:Kw) (k:St->Kw->Tr) (U:Env) (I:Nat->List Dt->Prop) (Aa:Array Bool) (j:J) (a:Act) (w:World),(Mp cl cx ops (gf ops) m C9 s kw k).holds sp G U I->Good sp cx.sm U kw->At cx U n X W0 s j a w->
   (∀p∈C9,ops[p.1]? =ZA p.2)->(C9.map (·.1)).Nodup->Aa.size=ops.size->iG ops (fun i=>Aa.getD i ZC)->(∀i,i<ops.size->(Aa.getD i ZC=ZC↔∃p∈C9,p.1=i))->
   (∀s' An U' I' j' a' w',(k s' An).holds sp G U' I'->Good sp cx.sm U' An->Nx kw An U U' I I'->At cx U' n X W0 s' j' a' w'->Q .normal a' w')->∀fuel,NS ops Aa<=fuel->wpAnyIn (Fw ro) 0 P .any ops Q fuel Aa a w:=by
 intro m
 induction m with
 |zero=>intro C9 s kw k U I Aa j a w h;exact h.elim
 |succ m ih=>
   intro C9 s kw k U I Aa j a w h hg hr Ad EZ BT hc DZ hK fuel hf;have part:∀(A:List (Nat×Oper)) (Iw:List (Nat×Oper)) (rs:List Rec) (s':St) (An:Kw),(∀p∈A,p∈C9)->(A.map (·.1)).Nodup->(∀p∈C9,p∈A\/∃q∈Iw,q.1=p.1)->
    KwGe An kw->rs.map (·.o)=A.map (·.2)->s'.fs=Cm rs s.fs->(s'.tmps.length=s.tmps.length/\s'.n=s.n)->(∀(m:Nat) r,rs[m]? =ZA r->RecOk P W0.hw U s.n W0.heap.size cx.fbs ops r (Cm (rs.take m) s.fs))->TU cx ops (gf ops) ((A.map (·.1)).zip rs) Iw=ZB->
    (∀(AA:Array Bool) j' a' w',AA.size=ops.size->iG ops (fun i=>AA.getD i ZC)->(∀i,AA.getD i ZC=ZB↔(Aa.getD i ZC=ZB\/∃p∈A,p.1=i))->At cx U n X W0 s' j' a' w'->∀fuel,NS ops AA<=fuel->wpAnyIn (Fw ro) 0 P .any ops Q fuel AA a' w')->
    wpAnyIn (Fw ro) 0 P .any ops Q fuel Aa a w:=by
    intro A Iw rs s' An hA Xd N3 hkw h2 h3 h4 h5 JU Mq;simp only[TU,ne]at JU;obtain⟨g1,g2,g3⟩:=JU;have Mu:∀p,p∈(A.map (·.1)).zip rs->(p.1,p.2.o)∈A:=fun p hp=>by obtain⟨i,hi⟩:=List.getElem?_of_mem hp;exact fD (adH h2 i p hi).1
    have Me:∀i,(∃p∈A,p.1=i)->∃p∈(A.map (·.1)).zip rs,p.1=i:=fun i ⟨p,hp,e⟩=>by
     have:i∈((A.map (·.1)).zip rs).map (·.1):=by rw[xC h2];exact List.mem_map.2 ⟨p,hp,e⟩
     obtain⟨q,hq,e2⟩:=List.mem_map.1 this;exact⟨q,hq,e2⟩
    refine ao3 (fb:=cx.fbs) (n:=n) (X:=X) (W0:=W0) (U:=U) (F0:=s.fs) (L:=(A.map (·.1)).zip rs) (base:=fun i=>Aa.getD i ZC) hQ (acZ hb) (fun p hp=>Ad _ (hA _ (Mu p hp))) (by rw[xC h2];exact Xd) (fun i p hp=> ?_) (fun i q x r hiq hx hq=> ?_) (fun p hp e he Xb=> ?_) (fun i hi Cr N7 p hp=> ?_) (fun AA j' a' w' Bj Gm B9 IR=> ?_)
     _ Aa j a w (ZK _) BT hc (fun i hi=>.inl hi) (fun i hi=>hi) ?_ fuel hf
    .rw[sG s.fs h2];have:=h5 i p.2 (adH h2 i p hp).2;rw[hr.own]at this;exact this
    .rcases pz g1 i q x r hiq (Nat.zero_le _) Xz (by simpa using hq)with h6|h6
     .exact .inr (jY _ _ h6)
     .exact .inl h6
    .have h6:=Ct.1 (Ct.1 g2 p hp) e YE;simp only[Xb,Bool.not_true,Bool.false_or,ne,Nat.blt_eq]at h6;refine⟨h6.1,?_⟩;cases Jo:Aa.getD e.on ZC with
     |true=>exact .inl rfl
     |false=>
       right;have hpl:=(hG.1 (Ad _ (hA _ (Mu p hp)))).1;obtain⟨q,hq,e1⟩:=(DZ e.on (Nat.lt_trans h6.1 hpl)).1 Jo;rcases N3 q hq with h7|⟨q2,h7,e2⟩
       .exact Me _ ⟨q,h7,e1⟩
       .exfalso;have:=Ct.1 h6.2 q2 h7;rw[e2,e1]at this;simp at this
    .obtain⟨q,hq,e1⟩:=(DZ i hi).1 Cr;rcases N3 q hq with h7|⟨q2,h7,e2⟩
     .exfalso;obtain⟨x,hx,ex⟩:=Me i ⟨q,h7,e1⟩;exact N7 x hx ex
     .have h8:=Ct.1 (Ct.1 g3 q2 h7) p hp;simp only[fk]at h8;rw[e2,e1]at h8;rcases h8 with h8|h8
      .exact .inr (jY _ _ h8)
      .refine .inl (alj hT h8 fun k hk Qi BM=> ?_);simp only[ne,ZP,List.any_eq_false,ne]at Qi;show(Aa.getD k ZC||_)=ZB;cases hlk:Aa.getD k ZC with
       |true=>rfl
       |false=>
         obtain⟨q3,hq3,e3⟩:=(DZ k hk).1 hlk;rcases N3 q3 hq3 with h9|⟨q4,h9,e4⟩
         .obtain⟨x,hx,ex⟩:=Me k ⟨q3,h9,e3⟩;have:=Qi.2 x hx;rw[Bool.false_or,List.any_eq_true];refine⟨x,hx,?_⟩;rw[ex]at this ⊢;simpa using this
         .have:=Qi.1 q4 h9;rw[e4,e3]at this;simp at this
    .refine Mq AA j' a' w' Bj Gm (fun i=>⟨fun h=> ?_,fun h=> ?_⟩) ⟨?_,by rw[h4.1];exact hr.len,by rw[h4.2];exact hr.own⟩
     .rcases(B9 i).1 h with h|⟨p,hp,e⟩
      .exact .inl h
      .exact .inr ⟨_,Mu p hp,e⟩
     .rcases h with h|h
      .exact(B9 i).2 (.inl h)
      .exact(B9 i).2 (.inr (Me i h))
     .rw[h3];have:=sG s.fs h2 rs.length;rw[List.take_of_length_le (by rw[List.length_zip];omega),List.take_of_length_le (ZK _)]at this;rw[<-this];exact IR
    .rw[rG]
     .exact hr.rel
     .intro p hp;have PV:=hA _ (Mu p hp);exact(DZ p.1 (hG.1 (Ad _ PV)).1).2 ⟨_,PV,rfl⟩
   simp only[Mp]at h;split at h
   ·
    obtain⟨rs,s',An,h1,g1,l1,h2,h3,h4,h5⟩:=nD (P:=P) (base:=W0.heap.size) hT hS AR CV.2.1.symm (C9.map (·.2)) s kw _ h hg hr.le;split at h1
    .rename_i JU;refine part C9 [] rs s' An (fun p hp=>hp) EZ (fun p hp=>.inl hp) l1 h2 h3 h4 h5 JU (fun AA j' a' w' Bj Gm B9 Dx Ja _=> ?_);refine wpAnyIn_done ?_ (hK s' An U I j' a' w' h1 g1 (.of l1 _ _) Dx) Ja;cases By:Region.ready .any ops AA with
     |nil=>rfl
     |cons i l=>
       exfalso;have hi:i∈Region.ready .any ops AA:=by rw[By];exact bR
       obtain⟨hu,o,ho,_⟩:=mem_ready.1 hi;have PO:=(hG.1 ho).1;have:AA.getD i ZB=AA.getD i ZC:=by rw[iw,iw,Array.getElem?_eq_getElem Fn];rfl
       rw[this]at hu;have h6:AA.getD i ZC=ZB:=by
        cases Jo:Aa.getD i ZC with
        |true=>exact(B9 i).2 (.inl Jo)
        |false=>exact(B9 i).2 (.inr ((DZ i PO).1 Jo))
       rw[h6]at hu;cases hu
    .exact h1.elim
   .rename_i ci co hbar;have R2:=xh hbar;have Wg:=Ad _ R2;split at h
    rotate_left
    ·
     exact h.elim
    obtain⟨rs,s',An,h1,g1,l1,h2,h3,h4,h5⟩:=nD (P:=P) (base:=W0.heap.size) hT hS AR CV.2.1.symm _ s kw _ h hg hr.le;split at h1
    .rename_i JU;have idxT:∀{p q:Nat×Oper},p∈C9->q∈C9->p.1=q.1->p=q:=by
      intro p q hp hq e;have h6:=Ad p hp;have h7:=Ad q hq;rw[e,h7]at h6;exact Prod.ext e (ZN h6).symm
     refine part _ _ rs s' An (fun p hp=>(List.mem_filter.1 hp).1) (EZ.sublist (List.Sublist.map _ List.filter_sublist)) (fun p hp=> ?_) l1 h2 h3 h4 h5 JU (fun AA j' a' w' Bj Gm B9 Dx Ja hf'=> ?_)
     .by_cases e1:p.1=ci
      .exact .inr ⟨(ci,co),bR,e1.symm⟩
      .have e2:ZJ p.1 ci=ZC:=by
        cases DV:ZJ p.1 ci with
        |false=>rfl
        |true=>exact absurd (Ak DV) e1
       cases hbit:mS (gf ops) p.1 ci with
       |false=>exact .inl (List.mem_filter.2 ⟨hp,by simp[e2,hbit]⟩)
       |true=>exact .inr ⟨p,cM _ (List.mem_filter.2 ⟨hp,by simp[e2,hbit]⟩),rfl⟩
     ·
      have Lj:ci<ops.size:=(hG.1 Wg).1;have gd:∀i,i<ops.size->AA.getD i ZB=AA.getD i ZC:=fun i hi=>by rw[iw,iw,Array.getElem?_eq_getElem Fn];rfl
      have left:∀i,i<ops.size->(AA.getD i ZC=ZC↔(i=ci\/∃p∈C9.filter fun p=>mS (gf ops) p.1 ci &&!ZJ p.1 ci,p.1=i)):=by
       intro i hi;constructor
       .intro h6;have h7:Aa.getD i ZC=ZC:=by
         cases Jo:Aa.getD i ZC with
         |false=>rfl
         |true=>rw[(B9 i).2 (.inl Jo)]at h6;cases h6
        obtain⟨p,hp,rfl⟩:=(DZ i hi).1 h7;by_cases e1:p.1=ci
        .exact .inl e1
        .right;have e2:ZJ p.1 ci=ZC:=by
          cases DV:ZJ p.1 ci with
          |false=>rfl
          |true=>exact absurd (Ak DV) e1
         cases hbit:mS (gf ops) p.1 ci with
         |true=>exact⟨p,List.mem_filter.2 ⟨hp,by simp[e2,hbit]⟩,rfl⟩
         |false=>exfalso;have:=(B9 p.1).2 (.inr ⟨p,List.mem_filter.2 ⟨hp,by simp[e2,hbit]⟩,rfl⟩);rw[this]at h6;cases h6
       .intro h6;cases Jo:AA.getD i ZC with
        |false=>rfl
        |true=>
          exfalso;rcases(B9 i).1 Jo with h7|⟨p,hp,e⟩
          .have De:∃p∈C9,p.1=i:=by
            rcases h6 with rfl|⟨p,hp,e⟩
            .exact⟨_,R2,rfl⟩
            .exact⟨p,(List.mem_filter.1 hp).1,e⟩
           rw[(DZ i hi).2 De]at h7;cases h7
          .obtain⟨Ve,OX⟩:=List.mem_filter.1 hp;rcases h6 with rfl|⟨q,hq,e2⟩
           .rw[e]at OX;simp at OX
           .obtain⟨Oh,He⟩:=List.mem_filter.1 hq;have:=idxT Ve Oh (e.trans e2.symm);subst this;simp only[ne,ZP]at OX He;rw[OX.2]at He;exact absurd He.1 (by simp)
      have LJ:AA.getD ci ZC=ZC:=(left ci Lj).2 (.inl rfl);have notB:∀i,AA.getD i ZC=ZC->i<ops.size->i≠ci->∀o,ops[i]? =ZA o->¬∀e∈o.after,YZ .any e=ZB->AA.getD e.on ZC=ZB:=by
       intro i hu PO BM o ho A8;rcases(left i PO).1 hu with h6|⟨p,hp,rfl⟩
       .exact BM h6
       .have h7:=(List.mem_filter.1 hp).2;simp only[ne]at h7;have:=jY _ _ h7.1 (fun i=>AA.getD i ZC) Gm (fun o' GS e he DV=>by
         rw[ho]at GS;cases GS;exact A8 e he DV)
        (try dsimp only at this)
        rw[LJ]at this;cases this
      obtain⟨f,rfl⟩:∃f,Ja=f+1:=by
       cases Ja with
       |zero=>have:=uA (ops:=ops) Bj Lj LJ;omega
       |succ f=>exact⟨f,rfl⟩
      have step:wpOpIn (Fw ro) 0 P ops Q ci (wpAnyIn (Fw ro) 0 P .any ops Q f (AA.setIfInBounds ci ZB)) a' w'\/¬(∀e∈co.after,YZ .any e=ZB->AA.getD e.on ZC=ZB):=by
       by_cases A8:∀e∈co.after,YZ .any e=ZB->AA.getD e.on ZC=ZB
       .left;refine aiU hT hS AR CV Wg h1 g1 Dx (fun s2 Dy U2 I2 j2 a2 w2 q1 q2 q3 q4=> ?_);have CA:∀k,(AA.setIfInBounds ci ZB).getD k ZC=if k=ci then ZB else AA.getD k ZC:=by
         intro k;rw[iw,Array.getElem?_setIfInBounds];by_cases hk:k=ci
         .subst hk;simp[Bj,Lj]
         .have Lt:¬ci=k:=fun e=>hk e.symm;simp[hk,Lt,iw]
        refine ih _ s2 Dy k U2 I2 (AA.setIfInBounds ci ZB) j2 a2 w2 q1 q2 q4 (fun p hp=>Ad p (List.mem_filter.1 hp).1) (EZ.sublist (List.Sublist.map _ List.filter_sublist)) (by simp[Bj]) (sr Bj Wg Gm A8) (fun i hi=> ?_)
         (fun s3 kw3 U3 I3 j3 a3 w3 p1 p2 p3 p4=>hK s3 kw3 U3 I3 j3 a3 w3 p1 p2 ((Nx.of l1 _ _).trans (q3.trans p3)) p4) f (by have:=uA (ops:=ops) Bj Lj LJ;omega)
        rw[CA];split
        next e=>subst e;refine⟨fun h=>Xo,fun⟨p,hp,e⟩=> ?_⟩;have:=(List.mem_filter.1 hp).2;rw[e]at this;simp at this
        next BM=>rw[left i hi];exact⟨fun h=>h.resolve_left BM,.inr⟩
       .exact .inr A8
      refine⟨fun Ef=> ?_,fun i hi=> ?_⟩
      .exfalso;have key:∀(k:Nat),k<ops.size->AA.getD k ZC=ZC->False:=by
        intro k
        induction k using Nat.strongRecOn with
        |_ k ihk=>
          intro Kp hku;obtain⟨o,ho⟩:∃o,ops[k]? =ZA o:=⟨ops[k],Array.getElem?_eq_getElem Kp⟩
          have:k∈Region.ready .any ops AA:=by
           rw[mem_ready];refine⟨by rw[gd k Kp];exact hku,o,ho,fun e he DV=> ?_⟩;have As:=aq9 hb ho e he DV;cases Jo:AA.getD e.on ZC with
           |true=>rfl
           |false=>exact(ihk e.on As (Nat.lt_trans As Kp) Jo).elim
          rw[Ef]at this;cases this
       exact key ci Lj LJ
      .obtain⟨hu,o,ho,A8⟩:=mem_ready.1 hi;have PO:=(hG.1 ho).1;rw[gd i PO]at hu;by_cases BM:i=ci
       .subst BM;rw[Wg]at ho;cases ho;rcases step with h6|h6
        .exact h6
        .exact absurd A8 h6
       .exact absurd A8 (notB i hu PO BM o ho)
    .exact h1.elim
end
section
variable {P:Program}{sp:Spec}{U:Env}{G:Env->E->Prop}{I:Nat->List Dt->Prop}{cx:Cx}{cl:Iz}{n:Nat}{X:List Value}{W0:Wb}{ro:Option Nat}{ry:Option RfS}{rl:Option RlK}
def ac7(tm:Nat->V)(heap:List Ob)(y:Lp):Ax tm (heap++[.loop y])=(Ax tm heap).setl heap.length (ZA y):=by
 refine Fz.ext' (fun _=>rfl) (fun b=> ?_) (fun b=> ?_) (fun b=> ?_)
 .simp only[Fz.setl,Ax,Ci];rcases Nat.lt_trichotomy b heap.length with h|h|h
  .rw[A9 h]
  .subst h;simp
  .rw[cf XC,cf Fn]
 .simp only[Fz.setl,Ax,BO];rcases Nat.lt_trichotomy b heap.length with h|h|h
  .rw[A9 h]
  .subst h;simp
  .rw[cf XC,cf Fn]
 .simp only[Fz.setl,Ax,GV];rcases Nat.lt_trichotomy b heap.length with h|h|h
  .rw[A9 h,if_neg Fn]
  .subst h;simp
  .rw[cf XC,cf Fn,if_neg Fn]
def rW{tm:Nat->V}{heap:List Ob}{id:Nat}(h:heap[id]? =ZA (.loop y))(y':Lp):Ax tm (heap.set id (.loop y'))=(Ax tm heap).setl id (ZA y'):=by
 have As:=(cZ.1 h).1;refine Fz.ext' (fun _=>rfl) (fun b=> ?_) (fun b=> ?_) (fun b=> ?_)
 .simp only[Fz.setl,Ax,Ci,ef];by_cases e:id=b
  .exact Yv
  .simp only[e,if_false]
 .simp only[Fz.setl,Ax,BO,ef];by_cases e:id=b
  .exact Yv
  .simp only[e,if_false]
 .simp only[Fz.setl,Ax,GV,ef];by_cases e:id=b
  .exact Yy
  .exact Ye
def ac8{tm:Nat->V}{heap:List Ob}{id:Nat}(h:heap[id]? =ZA (.loop y)):Ax tm (heap.set id .gone)=(Ax tm heap).endl id:=by
 have As:=(cZ.1 h).1;refine Fz.ext' (fun _=>rfl) (fun b=> ?_) (fun b=> ?_) (fun b=> ?_)
 .simp only[Fz.endl,Ax,Ci,ef];by_cases e:id=b
  .exact Yv
  .simp only[e,if_false]
 .simp only[Fz.endl,Ax,BO,ef];by_cases e:id=b
  .exact Yy
  .exact Ye
 .simp only[Fz.endl,Ax,GV,ef];by_cases e:id=b
  .exact Yy
  .exact Ye
def oe{heap:List Ob}{id:Nat}:GV heap id=ZA y↔heap[id]? =ZA (.loop y):=by
 unfold GV;constructor
 .intro h;split at h
  next y' hy=>cases h;exact hy
  .exact Xo
 .intro h;rw[h]
def apT{heap:List Ob}(h:tX heap=ZB)(i:Nat):GV heap i=ZE:=by
 cases hl:GV heap i with
 |none=>rfl
 |some y=>have:=Ct.1 h _ (fD (oe.1 hl));cases this
def Xk{heap:List Ob}{id:Nat}(h:tX (heap.set id .gone)=ZB)(i:Nat)(y:Lp)(hy:GV heap i=ZA y):i=id:=by
 refine Classical.byContradiction fun BM=> ?_;have h1:=apT h i;have h2:=oe.1 hy;have:(heap.set id .gone)[i]? =ZA (.loop y):=by rw[ef,if_neg (fun e=>BM e.symm)];exact h2
 rw[oe.2 this]at h1;cases h1
def acq{f:Operand}{id:Nat}(hr:At cx U n X W0 s j a w)(h:xF (Ia s.n s.tmps f) id=ZA (g,args)):
  ∃x y:List Value,a.eval f=.func (.func g) x.toArray y.toArray/\∀(j1:J) (l:Nat),Sub j j1->j1.g.y id=ZA l->(x++[Value.func (.yield l) #[] #[]]++y).length=args.length/\∀(i:Nat) v,args[i]? =ZA v->∃u,(x++[Value.func (.yield l) #[] #[]]++y)[i]? =ZA u/\v.den U j1=ZA u:=by
 have mid:∀(j1:J) (l:Nat),j1.g.y id=ZA l->∀(i:Nat) v,[V.one (.yld id)][i]? =ZA v->∃u,[Value.func (.yield l) #[] #[]][i]? =ZA u/\v.den U j1=ZA u:=by
  intro j1 l hl i v hv;cases i with
  |zero=>simp only[cy,bv]at hv;subst hv;exact⟨_,rfl,by simp only[V.den,C.den,hl,YU]⟩
  |succ i=>simp at hv
 unfold xF at h;split at h
 next g' hf=>cases h;have h4:=hr.ev hf;exact⟨[],[],(ZN h4).symm,fun j1 l hs hl=>⟨rfl,by simpa using mid j1 l hl⟩⟩
 .rename_i g' fs ps hf;cases h;obtain⟨x,y,hx,hy,h5⟩:=gu (show FC g (eZ j fs) (eZ j ps)=ZA (a.eval f)from hr.ev hf);obtain⟨e1,e2⟩:=mO (U:=U) hx;obtain⟨e3,e4⟩:=mO (U:=U) hy;have up:∀{j1:J} (hs:Sub j j1) {l:List V} {us:List Value},(∀(i:Nat) v,l[i]? =ZA v->∃u,us[i]? =ZA u/\v.den U j=ZA u)->∀(i:Nat) v,l[i]? =ZA v->∃u,us[i]? =ZA u/\v.den U j1=ZA u:=fun hs l us hh i v hv=>by
   obtain⟨u,h1,h2⟩:=hh i v hv;exact⟨u,h1,V.den_sub hs h2⟩
  exact⟨x,y,h5,fun j1 l hs hl=>⟨by simp only[eg,e1,e3,List.length_singleton],oO (by simp only[eg,e1,List.length_singleton]) (oO e1 (up hs e2) (mid j1 l hl)) (up hs e4)⟩⟩
 .exact Xo
def oP(CV:CallOk P sp G cx ry cl)(hrl:∀f,rl=ZA f->ro=ZE/\∀r,CallOk P sp G cx (ZA r) (f r))(hm:P.follows .mixedOrders=ZB)(hT:∀t i,(t,i)∈cx.ty->TIok P t i)(hS:∀s∈cx.sm,SmOk P sp s)(AR:∀s∈cx.sm,∀s'∈cx.sm,s.key=s'.key->s=s')(fuel:Nat):
  ∀(c:Code) (W0:Wb) (s:St) (kw:Kw) (k:Sig->St->Kw->Tr) (Q:Exit->Act->World->Prop) (U:Env) (I:Nat->List Dt->Prop) (j:J) (a:Act) (w:World),Tie sp ry X W0->(rl.isSome=ZB->W0.top=ZB/\W0.rf=ZE)->(gF cl rl cx fuel c s kw k).holds sp G U I->Good sp cx.sm U kw->At cx U n X W0 s j a w->
   (∀M' sg s' An U' I' j' a' w',(rl=ZE->M'=W0.M)->(k sg s' An).holds sp G U' I'->Good sp cx.sm U' An->Ag kw.vk.length U U'->(∀m,m<kw.lv->I' m=I m)->kw.lv<=An.lv->kw.vk.length<=An.vk.length->At cx U' n X {W0 with M:=M'} s' j' a' w'->Q sg.exit' a' w')->c.wpIn (Fw ro) 0 P Q a w:=by
 intro c
 induction c with
 |skip=>intro W0 s kw k Q U I j a w ht ER h hg hr hQ;exact wpIn_skip (hQ W0.M _ _ _ _ _ _ _ _ (fun _=>rfl) h hg (.refl _ _) (fun _ _=>rfl) (ZK _) (ZK _) hr)
 |label l=>intro W0 s kw k Q U I j a w ht ER h hg hr hQ;exact wpIn_label (hQ W0.M _ _ _ _ _ _ _ _ (fun _=>rfl) h hg (.refl _ _) (fun _ _=>rfl) (ZK _) (ZK _) hr)
 |exit id=>intro W0 s kw k Q U I j a w ht ER h hg hr hQ;exact wpIn_exit (hQ W0.M (.exit id) _ _ _ _ _ _ _ (fun _=>rfl) h hg (.refl _ _) (fun _ _=>rfl) (ZK _) (ZK _) hr)
 |ret=>intro W0 s kw k Q U I j a w ht ER h hg hr hQ;exact wpIn_ret (hQ W0.M .ret _ _ _ _ _ _ _ (fun _=>rfl) h hg (.refl _ _) (fun _ _=>rfl) (ZK _) (ZK _) hr)
 |scope c ih=>intro W0 s kw k Q U I j a w ht ER h hg hr hQ;refine lu (ih W0 s kw k _ U I j a w ht ER h hg hr fun M' sg s' An U' I' j' a' w' q0 q1 q2 q3 q4 q5 q6 q7=> ?_);have:=hQ M' sg s' An U' I' j' a' w' q0 q1 q2 q3 q4 q5 q6 q7;cases sg<;>exact this
 |region id ops draw=>
   intro W0 s kw k Q U I j a w ht ER h hg hr hQ;simp only[gF]at h;split at h
   .obtain⟨rs,s',An,h1,g1,l1,h2,h3,h4,h5⟩:=nD (P:=P) (base:=W0.heap.size) hT hS AR ht.1.symm ops.toList s kw _ h hg hr.le;rw[hr.own]at h5;have Hv:∀j' a' w',(k .normal s' An).holds sp G U I->Rel U n X W0 cx.fbs (Cm rs s.fs) j' a' w'->Q .normal a' w':=fun j' a' w' hk AU=>
     hQ W0.M .normal s' An U I j' a' w' (fun _=>rfl) hk g1 (.refl _ _) (fun _ _=>rfl) (by rw[l1.lv];exact ZK _) l1.vk ⟨by rw[h3];exact AU,by rw[h4.1];exact hr.len,by rw[h4.2];exact hr.own⟩
    cases draw with
    |false=>
      refine wpIn_region ?_;have BT:ops.size=rs.length:=by rw[<-Array.length_toList,<-h2,List.length_map]
      rw[BT,List.range_eq_range'];exact rF (P:=P) rs [] s.fs (by simpa using h2.symm) (by simpa using h5) (by simpa[Cm]using hr.rel) (fun j' a' w' AU=>Hv j' a' w' h1 (by simpa using AU))
    |true=>
      simp only[if_true]at h1;split at h1
      .rename_i hord;obtain⟨g2,g3⟩:=agX (ops:=ops) amV rs [] [] (by simpa using h2.symm) hord rfl (fun i hi=>by simp at hi);refine wpIn_region_any hm ?_;have BT:ops.size=rs.length:=by rw[<-Array.length_toList,<-h2,List.length_map]
       refine acU (F0:=s.fs) (L:=rs) h2.symm h5 (fun i o ho e he hb=> ?_) (fun k i x r hk hx hri=>by simpa using g3 k i x r hk (Nat.zero_le _) Xz (by simpa using hri)) (fun j' a' w' AU=>Hv j' a' w' h1 AU) ops.size (Array.replicate ops.size ZC) j a _ (by simp[BT]) ?_ ?_ ?_
       .have As:i<rs.length:=by
         rw[<-BT];rcases bt i ops.size with h6|h6
         .exact h6
         .rw[Array.getElem?_eq_none h6]at ho;cases ho
        have hri:rs[i]? =ZA rs[i]:=AH As;have:=amV i _ rs h2.symm hri;rw[ho]at this;cases this;exact g2 i _ (Nat.zero_le _) (by simp) e he hb
       .intro i o _ hs;simp only[iw,Array.getElem?_replicate]at hs;split at hs<;>simp at hs
       .exact cX List.countP_le_length (by simp[BT])
       .rw[wy rs 0 s.fs (fun m hm=>by
         simp only[iw,Array.getElem?_replicate];split<;>simp)]
        exact hr.rel.more (Ext.refl w).drew
      .exact h1.elim
   .have hK:∀s' An U' I' j' a' w',(k .normal s' An).holds sp G U' I'->Good sp cx.sm U' An->Nx kw An U U' I I'->At cx U' n X W0 s' j' a' w'->Q .normal a' w':=
     fun s' An U' I' j' a' w' q1 q2 q3 q4=>hQ W0.M .normal s' An U' I' j' a' w' (fun _=>rfl) q1 q2 q3.ag q3.inv q3.lv q3.vk q4
    cases draw with
    |false=>refine wpIn_region ?_;rw[List.range_eq_range',<-Array.length_toList];exact agH hT hS AR ⟨CV,ht⟩ ops.toList 0 (fun m o hm=>by rw[bJ,<-lx];exact hm) s kw _ U I j a w h hg hr hK
    |true=>
      simp only[if_true]at h;split at h
      .rename_i hb;refine wpIn_region_any hm ?_;refine lT (Q:=fun e a w=>e=.normal/\Q .normal a w) (fun e a w h=>by rw[h.1];exact h.2) _ _ _ _ ?_;have EZ:((gq 0 ops.toList).map (·.1)).Nodup:=by rw[qv];exact List.nodup_range'
       have gd:∀i,i<ops.size->(Array.replicate ops.size ZC).getD i ZC=ZC:=fun i hi=>by rw[iw,Array.getElem?_replicate,if_pos hi];rfl
       refine apt (W0:=W0) (n:=n) (X:=X) hT hS AR ⟨CV,ht⟩ hb (fun c a w h=>by cases h.1) _ _ s kw _ U I _ j a _ h hg ⟨hr.rel.more (Ext.refl w).drew,hr.len,hr.own⟩ (fun p hp=>aio hp) EZ (by simp) ?_ (fun i hi=>⟨fun _=> ?_,fun _=>gd i hi⟩)
        (fun s' An U' I' j' a' w' q1 q2 q3 q4=>⟨rfl,hK s' An U' I' j' a' w' q1 q2 q3 q4⟩) ops.size ?_
       .intro i o ho hs;have:=gd i (hG.1 ho).1;exact Bool.noConfusion (hs.symm.trans this)
       .have:i∈(gq 0 ops.toList).map (·.1):=by rw[qv,List.mem_range'_1];simp;exact hi
        obtain⟨p,hp,e⟩:=List.mem_map.1 this;exact⟨p,hp,e⟩
       .exact cX List.countP_le_length (by simp)
      .exact h.elim
 |seq x y ihx ihy=>
   intro W0 s kw k Q U I j a w ht ER h hg hr hQ;simp only[gF]at h;split at h
   .refine wpIn_seq (ihx W0 s kw _ _ U I j a w ht ER h hg hr (fun M' sg s' An U' I' j' a' w' Em h' CQ C0 D2 B9 CP AU=> ?_));cases sg with
    |normal=>exact ihy {W0 with M:=M'} s' An k Q U' I' j' a' w' ht ER h' CQ AU (fun M2 sg s2 Dy U2 I2 j2 a2 w2 NM h2 hg2 Cj R0 HC IH Lz=>hQ M2 sg s2 Dy U2 I2 j2 a2 w2 (fun e=>(NM e).trans (Em e)) h2 hg2 (C0.trans (Cj.mono CP)) (fun m hm=>(R0 m Fn).trans (D2 m hm)) Fn Fn Lz)
    |exit id=>exact hQ M' (.exit id) s' An U' I' j' a' w' Em h' CQ C0 D2 B9 CP AU
    |ret=>exact hQ M' .ret s' An U' I' j' a' w' Em h' CQ C0 D2 B9 CP AU
   .rename_i id pls _;split at h
    .refine wpIn_seq (ihx W0 s kw _ _ U I j a w ht ER h hg hr (fun M' sg s' An U' I' j' a' w' Em h' CQ C0 D2 B9 CP AU=> ?_));cases sg with
     |normal=>exact h'.elim
     |exit id=>exact hQ M' (.exit id) s' An U' I' j' a' w' Em h' CQ C0 D2 B9 CP AU
     |ret=>exact hQ M' .ret s' An U' I' j' a' w' Em h' CQ C0 D2 B9 CP AU
    .split at h
     .rename_i hd vks Kz;have A0:hd.tmps.length=n+X.length/\hd.n=n:=⟨(kS Kz).1.trans hr.len,(kS Kz).2.trans hr.own⟩
      obtain⟨inv,CM,HT⟩:=h;refine wpIn_seq (ihx W0 s {kw with lv:=kw.lv+1} _ _ U (HE I kw.lv inv) j a w ht ER CM ⟨hg.pc,hg.vk,hg.log⟩ hr (fun M' sg s' An U' I' j' a' w' Em h' CQ C0 D2 B9 CP AU=> ?_));have xA:∀m,m<kw.lv->I' m=I m:=fun m hm=>(D2 m (by show m<kw.lv+1;omega)).trans (pm I inv Fn);cases sg with
      |normal=>
        obtain⟨ds,h1,h2,j3,h3⟩:=abt (U:=U) h' CQ.vk A0 C0 AU;rw[D2 kw.lv (Nat.lt_succ_self _),oz]at h1;obtain⟨U2,g1,g2,g3⟩:=HT ds h2 h1;refine ihy {W0 with M:=M'} hd (kw.head vks) k Q U2 I j3 a' w' ht ER g3 (qn hg g1 (by rw[g2];exact h2)) (h3 U2 g1 g2) (fun M2 sg s2 Dy U3 I2 j2 a2 w2 NM h2 hg2 Cj R0 HC IH Lz=>hQ M2 sg s2 Dy U3 I2 j2 a2 w2 (fun e=>(NM e).trans (Em e)) h2 hg2 (g1.trans (Cj.mono ?_)) (fun m hm=>R0 m ?_) ?_ ?_ Lz)
        .simp[Kw.head]
        .show m<kw.lv+1;omega
        .have:kw.lv+1<=Dy.lv:=HC;omega
        .have:(kw.vk++vks).length<=Dy.vk.length:=IH;rw[eg]at this;omega
      |exit id=>exact hQ M' (.exit id) s' An U' I' j' a' w' Em h' CQ C0 xA Yx CP AU
      |ret=>exact hQ M' .ret s' An U' I' j' a' w' Em h' CQ C0 xA Yx CP AU
     .exact h.elim
 |cond c x y ihx ihy=>
   intro W0 s kw k Q U I j a w ht ER h hg hr hQ;simp only[gF]at h;split at h
   .rename_i e he;have hc:a.eval c=.bool (e.B U):=by
     exact kE (hr.ev he)
    obtain⟨Ch,h1,g1,v1,l1⟩:=aS _ _ _ h hg;have hQ':∀M' sg s' An U' I' j' a' w',(rl=ZE->M'=W0.M)->(k sg s' An).holds sp G U' I'->Good sp cx.sm U' An->Ag Ch.vk.length U U'->(∀m,m<Ch.lv->I' m=I m)->Ch.lv<=An.lv->Ch.vk.length<=An.vk.length->At cx U' n X {W0 with M:=M'} s' j' a' w'->Q sg.exit' a' w':=by intro M' sg s' An U' I' j' a' w' Em h' CQ C0 D2 B9 CP AU;rw[v1]at C0 CP;rw[l1.lv]at D2 B9;exact hQ M' sg s' An U' I' j' a' w' Em h' CQ C0 D2 B9 CP AU
    refine wpIn_cond_split hc (fun hcb=> ?_) (fun hcb=> ?_)
    .rw[hcb]at h1;exact ihx W0 s Ch k Q U I j a w ht ER h1 g1 hr hQ'
    .rw[hcb]at h1;exact ihy W0 s Ch k Q U I j a w ht ER h1 g1 hr hQ'
   .exact h.elim
 |block id c ih=>
   intro W0 s kw k Q U I j a w ht ER h hg hr hQ;refine wpIn_block (ih W0 s kw _ _ U I j a w ht ER h hg hr (fun M' sg s' An U' I' j' a' w' Em h' CQ C0 D2 B9 CP AU=> ?_));cases sg with
   |normal=>exact hQ M' .normal s' An U' I' j' a' w' Em h' CQ C0 D2 B9 CP AU
   |ret=>exact hQ M' .ret s' An U' I' j' a' w' Em h' CQ C0 D2 B9 CP AU
   |exit i=>
     dsimp only at h';unfold Sig.exit' Exit.inBlock;dsimp only;split at h'
     next hi=>rw[if_pos (Ak hi)];exact hQ M' .normal s' An U' I' j' a' w' Em h' CQ C0 D2 B9 CP AU
     next hi=>rw[if_neg (fun e=>hi (by rw[e];simp))];exact hQ M' (.exit i) s' An U' I' j' a' w' Em h' CQ C0 D2 B9 CP AU
 |loop c ih=>
   intro W0 s kw k Q U I j a w ht ER h hg hr hQ;simp only[gF]at h;split at h
   .refine wpIn_loop_rounds fuel ?_;have key:∀(m:Nat) (M:List Nat) (s:St) (Dy:Kw) (U2:Env) (I2:Nat->List Dt->Prop) (j:J) (a:Act) (w:World),(rl=ZE->M=W0.M)->(V2 (gF cl rl cx fuel c) m s Dy k).holds sp G U2 I2->Good sp cx.sm U2 Dy->Ag kw.vk.length U U2->(∀m,m<kw.lv->I2 m=I m)->kw.lv<=Dy.lv->kw.vk.length<=Dy.vk.length->At cx U2 n X {W0 with M:=M} s j a w->Code.roundsIn (Fw ro) 0 P c Q m a w:=by
     intro m
     induction m with
     |zero=>intro M s Dy U2 I2 j a w hM h;exact h.elim
     |succ m ihm=>
       intro M s Dy U2 I2 j a w hM h hg Cj R0 HC IH hr;rw[roundsIn_succ];simp only[V2]at h;refine ih {W0 with M:=M} s Dy _ _ U2 I2 j a w ht ER h hg hr (fun M' sg s' An U' I' j' a' w' Em h' CQ C0 D2 B9 CP AU=> ?_);have Bd:Ag kw.vk.length U U':=Cj.trans (C0.mono IH);have MW:∀m,m<kw.lv->I' m=I m:=fun m hm=>(D2 m Fn).trans (R0 m hm);cases sg with
       |normal=>exact ihm M' s' An U' I' j' a' w' (fun e=>(Em e).trans (hM e)) h' CQ Bd MW Fn Fn AU
       |exit id=>exact hQ M' (.exit id) s' An U' I' j' a' w' (fun e=>(Em e).trans (hM e)) h' CQ Bd MW Fn Fn AU
       |ret=>exact hQ M' .ret s' An U' I' j' a' w' (fun e=>(Em e).trans (hM e)) h' CQ Bd MW Fn Fn AU
    exact key fuel W0.M s kw U I j a w (fun _=>rfl) h hg (.refl _ _) (fun _ _=>rfl) (ZK _) (ZK _) hr
   .rename_i id pls _;split at h
    .exact h.elim
    .split at h
     .rename_i hd vks θ ex Kz Hm;split at h
      .rename_i Al;have A0:hd.tmps.length=n+X.length/\hd.n=n:=⟨(kS Kz).1.trans hr.len,(kS Kz).2.trans hr.own⟩
       obtain⟨inv,μ,Q5,HT⟩:=h;obtain⟨d1,d2⟩:=rL Al hg.vk A0 (.refl _ _) hr;have key:∀(m:Nat) (M:List Nat) (ds:List Dt) (a:Act) (w:World),(rl=ZE->M=W0.M)->μ ds<m->inv ds->okDs vks ds->WG cx n X {W0 with M:=M} U kw.vk.length vks hd ds a w->Code.roundsIn (Fw ro) 0 P c Q m a w:=by
        intro m
        induction m with
        |zero=>intro M ds a w _ h;omega
        |succ m ihm=>
          intro M ds a w hM hμ De Bp Dx;rw[roundsIn_succ];obtain⟨U2,g1,g2,g3⟩:=HT ds Bp De;obtain⟨j2,UR⟩:=Dx;refine ih {W0 with M:=M} hd (kw.head vks) _ _ U2 _ j2 a w ht ER g3 (qn hg g1 (by rw[g2];exact Bp)) (UR U2 g1 g2) (fun M' sg s' An U' I' j' a' w' Em h' CQ C0 D2 B9 CP AU=> ?_);have IH:kw.vk.length<=(kw.head vks).vk.length:=by simp[Kw.head]
          have Bd:Ag kw.vk.length U U':=g1.trans (C0.mono IH);have MW:∀m,m<kw.lv->I' m=I m:=fun m hm=>(D2 m (by show m<kw.lv+1;omega)).trans (pm I _ Fn);have M3:kw.lv<=An.lv:=Yx;have Qe:kw.vk.length<=An.vk.length:=Fn;cases sg with
          |normal=>obtain⟨Lc,k1,k2,k3⟩:=abt (U:=U) h' CQ.vk A0 Bd AU;rw[D2 kw.lv (Nat.lt_succ_self _),oz]at k1;exact ihm M' Lc a' w' (fun e=>(Em e).trans (hM e)) Fn k1.1 k2 k3
          |exit id=>exact hQ M' (.exit id) s' An U' I' j' a' w' (fun e=>(Em e).trans (hM e)) h' CQ Bd MW M3 Qe AU
          |ret=>exact hQ M' .ret s' An U' I' j' a' w' (fun e=>(Em e).trans (hM e)) h' CQ Bd MW M3 Qe AU
       exact wpIn_loop_rounds (μ ((Cu vks θ).D U)+1) (key _ W0.M _ a w (fun _=>rfl) (Nat.lt_succ_self _) Q5 d1 d2)
      .exact h.elim
     .exact h.elim
 |rangeFunc f ps assign body=>
   intro W0 s kw k Q U I j a w ht ER h hg hr hQ;simp only[gF]at h;split at h<;>first|exact h.elim|skip
   rename_i rlf g args B6 _ _;split at h<;>first|exact h.elim|skip
   rename_i Ea;rw[ne]at Ea;have JQ:g<yB:=by simpa[Nat.blt_eq]using Ea.1
   obtain⟨rfl,hcr⟩:=hrl _ rfl;obtain⟨w0,M0,top0,rf0,If,MB⟩:=W0;obtain⟨LY,HW⟩:=ER rfl;dsimp only at LY HW;subst LY HW;obtain⟨x,y,Av,Qq⟩:=acq hr B6;refine wpIn_rangeFunc fun fn _=> ?_;obtain⟨o,ho⟩:∃o:Loop,o={state:=.ready,pending:=ZE,fn,tmps:=a.tmps,params:=ps,assign,body,defers:=w.heap.size}:=⟨_,rfl⟩
   obtain⟨rf,HW⟩:∃rf:Rf,rf=⟨ps,assign,body,a.tmps,w.heap.size+1⟩:=⟨_,rfl⟩
   have hl:rf.l=w.heap.size+1:=by rw[HW]
   have Rq:(St.mk s.tmps (s.heap++[.loop ⟨.ready,ZE⟩])).fs=s.fs.setl s.heap.length (ZA ⟨.ready,ZE⟩):=ac7 _ _ _;have IR:=hr.rel.loopNew (id:=s.heap.length) (jW (ZK _)).1 (apT Ea.2 _) rfl rfl hl (o:=o) ⟨by rw[ho];rfl,by rw[ho];rfl,by rw[ho,HW],by rw[ho,HW],by rw[ho,HW],by rw[ho,HW]⟩;rw[<-Rq]at IR;obtain⟨j1,Xe⟩:∃j1,j1=({j with g:=⟨fun b=>if b=s.heap.length then ZA rf.l else j.g.y b,fun k=>if k=rf.l then ZA (.loop o)else if k=w.heap.size then ZA (.deferred (ZA []))else j.g.z k⟩}:J):=⟨_,rfl⟩
   rw[<-Xe]at IR;have Qd:j1.g.y s.heap.length=ZA (w.heap.size+1):=by rw[Xe];simp[hl]
   have BG:Sub j j1:=by
    rw[Xe];exact⟨fun _ _ h=>h,fun _ _ h=>h,fun _ _ h=>h,fun b k hb=>by
     show(if b=s.heap.length then ZA rf.l else j.g.y b)=ZA k;by_cases e:b=s.heap.length
     .subst e;rw[hr.rel.gs.nol _ (jW (ZK _)).1 (apT Ea.2 _)]at hb;cases hb
     .rw[if_neg e];exact hb⟩
   obtain⟨Kf,IN⟩:=Qq j1 (w.heap.size+1) BG Qd;have A0:X.length=fd s.tmps.old:=by have h1:=hr.len;have h2:=hr.own;unfold TM.length at h1;unfold St.n at h2;omega
   have key:(callFunc g (x++[Value.func (.yield (w.heap.size+1)) #[] #[]]++y).toArray).run P ((w.alloc (.deferred (ZA []))).alloc (.loop o))=.ok (.enter g (x++[Value.func (.yield (w.heap.size+1)) #[] #[]]++y).toArray) ((w.alloc (.deferred (ZA []))).alloc (.loop o))/\
    Calls P g (x++[Value.func (.yield (w.heap.size+1)) #[] #[]]++y).toArray ((w.alloc (.deferred (ZA []))).alloc (.loop o)) fun e w'=>∃u,e=.returned u/\rangePost (Fw ZE) 0 P (w.heap.size+1) Q {a with defers:={target:=.collected w.heap.size,args:= #[]}::a.defers} (.returned u) w':=by
    refine(hcr ⟨ps,assign,body,fd s.tmps.old,s.n,cx.hints,cx.cuts⟩).call g args ⟨s.tmps,s.heap++[.loop ⟨.ready,ZE⟩]⟩ kw _ (fun u w'=>rangePost (Fw ZE) 0 P (w.heap.size+1) Q {a with defers:={target:=.collected w.heap.size,args:= #[]}::a.defers} (.returned u) w') U I n X _ j1 _ _ _ JQ h hg ⟨IR,hr.len,hr.own⟩ ⟨by exact ht.1,rf,[],X,rfl,by rw[HW],by rw[HW],by rw[HW],by rw[HW];exact hr.rel.size.trans hr.own.symm,by rw[HW];rfl,A0⟩ Kf IN (fun v s' An U' I' j' w' u h' CQ C0 D2 B9 CP hvd Dx=> ?_);split at h'<;>first|exact h'.elim|skip
    rename_i yy hyy;have hy:s'.fs.lp s.heap.length=ZA yy:=oe.2 hyy;obtain⟨rf',o',e1,e2,e3,e4,e5,e6⟩:=Dx.rel.lpZ hy;cases e1;rw[hl]at e4;have Hv:∀(hb:yy.st≠.busy),tX (s'.heap.set s.heap.length .gone)=ZB->∃W4 j2,(Instr.endLoop (w.heap.size+1)).run P w'=.ok o'.pending W4/\At cx U' n X ⟨w0,w.heap.size::M0,ZB,ZE,If,MB⟩ ⟨s'.tmps,s'.heap.set s.heap.length .gone⟩ j2 {a with defers:={target:=.collected w.heap.size,args:= #[]}::a.defers} W4:=by intro hb hn;refine⟨_,j'.setz rf.l ZE,run_endLoop e4 (by rw[e5.st];cases hs:yy.st<;>simp_all [LS.st]),⟨?_,Dx.len,Dx.own⟩⟩;rw[show(St.mk s'.tmps (s'.heap.set s.heap.length .gone)).fs=s'.fs.endl s.heap.length from ac8 hyy,<-hl];exact Dx.rel.loopEnd hy (fun i yi h=>Xk hn i yi h) e3 _
    have out:∀sg:Option Sig,yy.pend=sg->yy.st≠.busy->tX (s'.heap.set s.heap.length .gone)=ZB->((match sg with|none=>k .normal ⟨s'.tmps,s'.heap.set s.heap.length .gone⟩ An|some .normal=>.stuck 207|some sg=>k sg ⟨s'.tmps,s'.heap.set s.heap.length .gone⟩ An:Tr).holds sp G U' I')->
     rangePost (Fw ZE) 0 P (w.heap.size+1) Q {a with defers:={target:=.collected w.heap.size,args:= #[]}::a.defers} (.returned u) w':=by
     intro sg hsg hb hn hh;obtain⟨W4,j2,Cv,HV⟩:=Hv hb hn;refine⟨_,_,Cv,?_⟩;rw[e5.pend,hsg];rcases sg with _|(_|id|_)
     .exact hQ _ .normal _ An U' I' j2 _ _ (fun e=>by cases e) hh CQ C0 D2 B9 CP HV
     .exact hh.elim
     .exact wpIn_exit (hQ _ (.exit id) _ An U' I' j2 _ _ (fun e=>by cases e) hh CQ C0 D2 B9 CP HV)
     .exact wpIn_ret (hQ _ .ret _ An U' I' j2 _ _ (fun e=>by cases e) hh CQ C0 D2 B9 CP HV)
    obtain⟨st,pend⟩:=yy;cases st with
    |busy=>exact h'.elim
    |ready=>
      dsimp only at h';split at h'
      next hn=>exact out pend rfl (by simp) hn h'
      .exact h'.elim
    |done=>
      dsimp only at h';split at h'
      next hn=>exact out pend rfl (by simp) hn h'
      .exact h'.elim
   obtain⟨hcf,Rv⟩:=key;refine⟨w.heap.size+1,[{target:=.collected w.heap.size,args:= #[]}],(w.alloc (.deferred (ZA []))).alloc (.loop o),{target:=.fn (.func g) y.toArray,args:=x.toArray ++ #[.func (.yield (w.heap.size+1)) #[] #[]]},(w.alloc (.deferred (ZA []))).alloc (.loop o),g,(x++[Value.func (.yield (w.heap.size+1)) #[] #[]]++y).toArray,(w.alloc (.deferred (ZA []))).alloc (.loop o),?_,?_,fun _ _=>trivial,?_,Um,kQ.2 (Rv.mono ?_)⟩
   .rw[ho];exact run_enterLoop_outer _ _ _ _ _
   .simp only[resolve,Av,Deferred.ofValue,ZI,Sem.run_pure,Result.andThen_ok];simp[Act.eval]
   .have e:((x.toArray ++ #[Value.func (.yield (w.heap.size+1)) #[] #[]])++y.toArray)=(x++[Value.func (.yield (w.heap.size+1)) #[] #[]]++y).toArray:=by simp
    simp only[invoke,e];exact hcf
   .rintro e w' ⟨u,rfl,hk⟩;exact hk
 |_=>intro W0 s kw k Q U I j a w ht ER h;exact h.elim
end
def TJ(cx:Cx)(s:St):ResultVar->Option (Bool×List C)
 |.tmp t=>match Ia s.n s.tmps (.tmp t)with
   |some (.one c)=>ZA (ZC,[c])
   |some (.agg cs)=>ZA (ZB,cs)
   |_=>ZE
 |.cell t ty=>match Ia s.n s.tmps (.tmp t),am ty cx.ty with
   |some (.one (.ptr b o)),ZA i=>if i.agg then(LR s.heap b o i.size).map (ZB,·)else(Kr s.heap b o).map (ZC,[·])
   |_,_=>ZE
def Hj(cx:Cx)(s:St):List ResultVar->Option (List (Bool×List C))
 |[]=>ZA []
 |r::l=>match TJ cx s r,Hj cx s l with
   |some x,ZA xs=>ZA (x::xs)
   |_,_=>ZE
def P4(vk:List VK)(heap:List Ob):CK->C->E->Option E
 |.int k,.int k' e,t=>if bE k k'&&e.rng vk k then ZA (.cons e t)else ZE
 |.bool,.bool e,t=>ZA (.j e t)
 |.fn g,.fn g',t=>if ZJ g g' then ZA (.cons (.p 0) t)else ZE
 |.nf,.nf,t=>ZA (.cons (.p 0) t)
 |.sl ks ty,.sl id,t=>match Km heap id with
   |some r=>if r.own&&(r.kd.fits r.ks&&(dc r.ks ks&&ZJ r.ty ty))then ZA (.N r.l t)else ZE
   |none=>ZE
 |.sl ks _,.nsl,t=>(match ks with |[]=>ZE|_::_=>ZA (.N .ln t))
 |_,_,_=>ZE
def oq(vk:List VK)(heap:List Ob):List CK->List C->E->Option E
 |[],[],t=>ZA t
 |k::ks,c::cs,t=>(oq vk heap ks cs t).bind (P4 vk heap k c)
 |_,_,_=>ZE
def aqX(heap:List Ob):CK->C->E->Option E
 |.int k,.int k' e,t=>if bE k k' then ZA (.cons e t)else ZE
 |.bool,.bool e,t=>ZA (.j e t)
 |.fn g,.fn g',t=>if ZJ g g' then ZA (.cons (.p 0) t)else ZE
 |.nf,.nf,t=>ZA (.cons (.p 0) t)
 |.sl ks ty,.sl id,t=>match Km heap id with
   |some r=>if r.own&&(r.kd.fits r.ks&&(dc r.ks ks&&ZJ r.ty ty))then ZA (.N r.l t)else ZE
   |none=>ZE
 |.sl ks _,.nsl,t=>(match ks with |[]=>ZE|_::_=>ZA (.N .ln t))
 |_,_,_=>ZE
def alu{heap:List Ob}{t e:E}(hc:c.rng vk=ZB)(h:aqX heap k c t=ZA e):P4 vk heap k c t=ZA e:=by
 unfold aqX at h;split at h
 .rename_i k1 k2 x;split at h
  next h1=>obtain rfl:=ar h1;have h2:x.rng vk k1=ZB:=hc;simp[P4,h1,h2];exact ZN h
  .exact Xo
 all_goals first|exact h|cases h
def Wj(heap:List Ob):List CK->List C->E->Option E
 |[],[],t=>ZA t
 |k::ks,c::cs,t=>(Wj heap ks cs t).bind (aqX heap k c)
 |_,_,_=>ZE
def xl{vk:List VK}{heap:List Ob}:∀{ks:List CK} {cs:List C} {t e:E},cs.all (C.rng vk)=ZB->Wj heap ks cs t=ZA e->oq vk heap ks cs t=ZA e
 |[],[],_,_,_,h=>h
 |k::ks,c::cs,t,e,hr,h=>by simp only[ZY,ne]at hr;simp only[Wj,cY]at h;obtain⟨e1,h1,h2⟩:=h;simp only[oq,cY];exact⟨e1,xl hr.2 h1,alu hr.1 h2⟩
def PE(vk:List VK)(heap:List Ob)(ks:List CK)(cs:List C)(t:E):Option E:=bif Ft vk cs vk 0 then Wj heap ks cs t else ZE
def si{heap:List Ob}{t e:E}(h:PE vk heap ks cs t=ZA e):oq vk heap ks cs t=ZA e:=by
 unfold PE at h;cases hr:Ft vk cs vk 0 with
 |false=>rw[hr]at h;cases h
 |true=>rw[hr]at h;exact xl (rngs_ok cs vk 0 rfl hr) h
def qx(vk:List VK)(heap:List Ob):List Sh->List (Bool×List C)->Option E
 |[],[]=>ZA .nil
 |.one k::ss,(ZC,[c])::l=>(qx vk heap ss l).bind (PE vk heap [k] [c])
 |.agg ks::ss,(ZB,cs)::l=>(qx vk heap ss l).bind (PE vk heap ks cs)
 |_,_=>ZE
def Ce:List CK->List C->List (Option Nat)
 |.sl _ _::ks,.sl id::cs=>ZA id::Ce ks cs
 |.sl _ _::ks,_::cs=>ZE::Ce ks cs
 |_::ks,_::cs=>Ce ks cs
 |_,_=>[]
def Gn:List Sh->List (Bool×List C)->List (Option Nat)
 |s::ss,(_,cs)::l=>Ce s.cks cs++Gn ss l
 |_,_=>[]
def oa:List (Option Nat)->Bool
 |[]=>ZB
 |none::l=>oa l
 |some a::l=>(l.all fun x=>match x with|some b=>!ZJ a b|none=>ZB)&&oa l
def H5(heap:List Ob)(id:Nat):Bool:=match Km heap id with
 |some r=>r.kd.isEv
 |none=>ZC
def Di(heap:List Ob)(j:J):Option Nat->SV
 |some id=>if H5 heap id then(j.s id).getD nilSV else {(j.s id).getD nilSV with z:=[]}
 |none=>nilSV
def aeJ(heap:List Ob)(j:J)(id:Nat):(Di heap j (ZA id)).v=((j.s id).getD nilSV).v:=by cases h:H5 heap id<;>simp only[Di,h]<;>rfl
def SM:List (Bool×List C)->V
 |[(ZB,cs)]=>.agg cs
 |[(ZC,[c])]=>.one c
 |xs=>.tup xs
def qp(dep:Nat):List (TT×Nat)->Option (TT×Nat)
 |[]=>ZE
 |(t,n)::l=>if ZJ (fd l) dep then ZA (t,n)else qp dep l
def Vz(tm:TM):List Nat->List V->Option TM
 |[],[]=>ZA tm
 |p::ps,v::vs=>if Nat.blt p tm.n then Vz (tm.set p v) ps vs else ZE
 |_,_=>ZE
def OE(cl:Iz)(cx:Cx)(fuel:Nat)(r:RfS)(id:Nat)(args:List V)(s:St)(kw:Kw)(k:V->St->Kw->Tr):Tr:=
 match s.heap[id]?,qp r.dep s.tmps.old with
 |some (.loop y),ZA (t,n)=>
   if ZJ n r.len&&(LS.same y.st .ready&&tX (s.heap.set id .gone))then
    match Vz ⟨t,n,(s.tmps.cur,s.tmps.n)::s.tmps.old⟩ r.ps.toList args with
    |some tm=>gF cl ZE cx fuel r.assign ⟨tm,s.heap⟩ kw fun sg s1 Ch=>match sg with
      |.normal=>(match s1.heap[id]? with
        |some (.loop y1)=>if LS.same y1.st .ready&&tX (s1.heap.set id .gone)then
         gF cl ZE cx fuel r.body ⟨s1.tmps,s1.heap.set id (.loop ⟨.busy,y1.pend⟩)⟩ Ch fun sg s2 Dy=>match s2.heap[id]? with
          |some (.loop _)=>if(ZJ s2.tmps.old.length (s.tmps.old.length+1)&&ZJ s2.tmps.pop.n s.n)&&tX (s2.heap.set id .gone)then(match sg with
           |.normal=>k (.one (.bool (.tt ZB))) ⟨s2.tmps.pop,s2.heap.set id (.loop ⟨.ready,ZE⟩)⟩ Dy
           |sg=>k (.one (.bool (.tt ZC))) ⟨s2.tmps.pop,s2.heap.set id (.loop ⟨.done,ZA sg⟩)⟩ Dy)else .stuck 210
          |_=>.stuck 211
          else .stuck 212
        |_=>.stuck 213)
      |_=>.stuck 214
    |none=>.stuck 215
   else .stuck 216
 |_,_=>.stuck 217
def zw(fuel:Nat):Nat->Cx->Option RfS->Iz
 |0,_,_,_,_,_,_,_=>.stuck 120
 |d+1,cx,ry,g,args,s,kw,k=>if Nat.blt g yB then(match am g cx.fns with
   |none=>.stuck (200000+g)
   |some (fn,hints,cuts)=>match fn.body with
     |some c=>if fn.name== "runtime.NumGoroutine" then .stuck 121 else
       gF (zw fuel d {cx with hints:=hints,cuts:=cuts} ry) ZE {cx with hints:=hints,cuts:=cuts} fuel c ⟨s.tmps.push args (args.length+(fn.ntmps-args.length)),s.heap⟩ kw fun sg s' An=>match sg with
        |.exit _=>.stuck 80
        |_=>match Hj cx s' fn.results.toList with
          |some xs=>if ZJ s'.tmps.old.length (s.tmps.old.length+1)&&ZJ s'.tmps.pop.n s.n then k (SM xs) ⟨s'.tmps.pop,s'.heap⟩ An else .stuck 129
          |none=>.stuck 81
     |none=>.stuck 122)
   else match ry with
    |some r=>OE (zw fuel d {cx with hints:=r.hints,cuts:=r.cuts} (ZA r)) {cx with hints:=r.hints,cuts:=r.cuts} fuel r (g-yB) args s kw k
    |none=>.stuck 209
def Pk(cx:Cx)(fuel:Nat)(fn:Func)(args:List V)(heap:List Ob)(kw:Kw):Tr:=
 match fn.body with
 |some c=>gF (zw fuel 12 cx ZE) (ZA fun r=>zw fuel 12 cx (ZA r)) cx fuel c ⟨TM.push args (args.length+(fn.ntmps-args.length)) ⟨.u (.one .undef),0,[]⟩,heap⟩ kw fun sg s kw=>match sg with
   |.exit _=>.stuck 80
   |_=>match Hj cx s fn.results.toList with
     |some xs=>match qx kw.vk s.heap cx.res xs with
       |some e=>if oa (Gn cx.res xs)then .u e else .stuck 83
       |none=>.stuck 84
     |none=>.stuck 81
 |none=>.stuck 82
section
variable {P:Program}{sp:Spec}{U:Env}{G:Env->E->Prop}{I:Nat->List Dt->Prop}{cx:Cx}{n:Nat}{X:List Value}{W0:Wb}
def wJ:∀{l:List (Option Nat)},oa l=ZB->∀(i i':Nat) b,l[i]? =ZA (ZA b)->l[i']? =ZA (ZA b)->i=i'
 |[],_,i,i',b,h,_=>by simp at h
 |x::l,h,i,i',b,hi,Bq=>by
   have key:oa l=ZB/\∀b,x=ZA b->∀i:Nat,l[i]? ≠ZA (ZA b):=by
    cases x with
    |none=>exact⟨h,fun b hb=>by cases hb⟩
    |some a=>simp only[oa,ne]at h;refine⟨h.2,fun b hb i hi=> ?_⟩;cases hb;have:=Ct.1 h.1 _ (fD hi);simp at this
   cases i with
   |zero=>
     simp at hi;cases i' with
     |zero=>rfl
     |succ i'=>exact absurd (by simpa using Bq) (key.2 b hi i')
   |succ i=>
     cases i' with
     |zero=>simp at Bq;exact absurd XS (key.2 b Bq i)
     |succ i'=>rw[wJ key.1 i i' b XS (by simpa using Bq)]
def akm(h:Rel U n X W0 cx.fbs s.fs j a w){b:Nat}:∀(m o:Nat),FI U j w (Kr s.heap) (dW b o m):=by intro m o p hp c hc;rw[<-yT]at hc;obtain⟨k',v,h1,h2,h3,_⟩:=oJ h (b:=p.1) (o:=p.2) (c:=c) hc;exact⟨k',v,h1,h2,h3⟩
def km{j:J}:∀{cs:List (Bool×List C)} {vs:List Value},cm U j cs=ZA vs->vs.length=cs.length
 |[],vs,h=>by cases h;rfl
 |c::cs,vs,h=>by
   simp only[cm]at h;cases hc:BL U j c with
   |none=>rw[hc]at h;cases h
   |some v=>
     cases hl:cm U j cs with
     |none=>rw[hc,hl]at h;cases h
     |some l=>rw[hc,hl]at h;cases h;simp[km hl]
def mm(tmps:Array Value):ResultVar->Sem Value
 |.tmp t=>pure (tmps.getD t undef)
 |.cell a t=>do loadVar t (<-asAddr (tmps.getD a undef))
def acT(fn:Func)(tmps:Array Value):results fn tmps=(do let vs <-fn.results.mapM (mm tmps);pure (if h:vs.size=1 then vs[0]else .tuple vs)):=by unfold results;congr 2
def agF(hT:∀t i,(t,i)∈cx.ty->TIok P t i)(h:At cx U n X W0 s j a w){r:ResultVar}{x:Bool×List C}(hx:TJ cx s r=ZA x):
  ∃v,BL U j x=ZA v/\(mm a.tmps r).run P w=.ok v w:=by
 have Pn:∀t u,Ia s.n s.tmps (.tmp t)=ZA u->u.den U j=ZA (a.tmps.getD t undef):=fun t u hu=>h.ev (x:=.tmp t) hu;cases r with
 |tmp t=>
   simp only[TJ]at hx;split at hx
   next c hc=>cases hx;exact⟨_,Pn t _ hc,by simp[mm]⟩
   next cs hc=>cases hx;exact⟨_,Pn t _ hc,by simp[mm]⟩
   .cases hx
 |cell t ty=>
   simp only[TJ]at hx;split at hx
   .rename_i b o i hb hi;obtain⟨kk,hk,hp⟩:=mz (Pn t _ hb);have ht:=hT _ _ (ab hi);split at hx
    next Bu=>rw[Ay]at hx;obtain⟨cs,CT,rfl⟩:=hx;obtain⟨vs,h1,h2⟩:=eh (P:=P) hk i.size o cs (agx _ _ _ _ CT) w (akm h.rel i.size o) ⟨kk,o,ZE⟩ 0 #[] (fun m=>by rw[bo];simp);refine⟨.agg vs.toArray,by simp[BL,h1],?_⟩;simp[mm,hp,asAddr,ZI,loadVar,ht.agg,Bu,ht.size,loadCells,h2]
    next Bu=>rw[Ay]at hx;obtain⟨c,hc,rfl⟩:=hx;rw[<-yT]at hc;obtain⟨k',v,h1,h2,h3,_⟩:=oJ h.rel (b:=b) (o:=o) (c:=c) hc;rw[hk]at h1;cases h1;have DF:i.agg=ZC:=YC;refine⟨v,h2,?_⟩;simp[mm,hp,asAddr,ZI,loadVar,ht.agg,DF,load,Sem.run,h3]
   .cases hx
def agG(hT:∀t i,(t,i)∈cx.ty->TIok P t i){j:J}{a:Act}{w:World}{s:St}(h:At cx U n X W0 s j a w):∀(l:List ResultVar) (xs:List (Bool×List C)),Hj cx s l=ZA xs->
  ∃vs,cm U j xs=ZA vs/\vs.length=l.length/\(l.mapM (mm a.tmps)).run P w=.ok vs w
 |[],xs,hx=>by cases hx;exact⟨[],rfl,rfl,by simp⟩
 |r::l,xs,hx=>by
   simp only[Hj]at hx;split at hx
   next x ys h1 h2=>cases hx;obtain⟨v,h3,h4⟩:=agF hT h h1;obtain⟨vs,h5,h6,h7⟩:=agG hT h l ys h2;refine⟨v::vs,by simp[cm,h3,h5],by simp[h6],?_⟩;rw[List.mapM_cons];simp only[ZI];rw[h4];simp only[Result.andThen_ok,h7];simp
   .cases hx
def rE(hT:∀t i,(t,i)∈cx.ty->TIok P t i)(h:At cx U n X W0 s j a w){xs:List (Bool×List C)}(hx:Hj cx s fn.results.toList=ZA xs):
  ∃vs,cm U j xs=ZA vs/\(results fn a.tmps).run P w=.ok (if h:vs.toArray.size=1 then vs.toArray[0]else .tuple vs.toArray) w:=by
 obtain⟨vs,h1,h2,h3⟩:=agG hT h _ xs hx;refine⟨vs,h1,?_⟩;rw[acT,ZI,Array.mapM_eq_mapM_toList];rw[show(List.toArray <$> List.mapM (mm a.tmps) fn.results.toList:Sem (Array Value))=(do let l <-List.mapM (mm a.tmps) fn.results.toList;pure l.toArray)from rfl];simp[ZI,h3]
def ff{α:Type}{ds:List α}{x:α}{r:List α}(h:ds.drop n=x::r):ds[n]? =ZA x/\ds.drop (n+1)=r:=by
 have h1:ds[n]? =ZA x:=by have:=congrArg (·[0]?) h;simpa using this
 refine⟨h1,?_⟩;have:=congrArg List.tail h;simpa using this
structure Res1(hp:List Ob)(U:Env)(j:J)(w0 w:World)(ks:List CK)(FW:List (Option Nat))(vs:List Value)(e t:E):Prop where
 len:FW.length=(ks.filter CK.isSl).length
 rng:gE ks (e.D U)
 at':∀ds n,ds.drop n=e.D U->ds.drop (n+ks.length)=t.D U/\∀(U':Env) v0,eqs U' ds v0 n ks->
  (∀id (j':J),(∀(i:Nat) u,FW[i]? =ZA u->j'.s (id+i)=ZA (Di hp j u))->Af U' j' (aE v0 n id ks)=ZA vs)/\
  (∀(i:Nat) u r,FW[i]? =ZA u->(bz v0 n ks)[i]? =ZA r->RowOk U' w0.heap.size w (Di hp j u) r)
def aq0{hp:List Ob}{U:Env}{t:E}:Res1 hp U j w0 w [] [] [] t t:=⟨rfl,trivial,fun ds n h=>⟨by simpa using h,fun U' v0 he=>⟨fun id j' h=>rfl,fun i u r h=>by simp at h⟩⟩⟩
def Tp{x:Int}(h:ds[n]? =ZA (.z x)):dI ds n=x:=by simp[dI,h]
def Vs{x:LL}(h:ds[n]? =ZA (.l x)):dL ds n=x:=by simp[dL,h]
def ov(b:Bool):(AE b==1)=b:=by cases b<;>rfl
def alt(hv:Vk U vk)(h:Rel U n X W0 cx.fbs s.fs j a w){t e:E}(he:P4 vk s.heap k c t=ZA e)(hd:c.den U j=ZA v){vs:List Value}{t0:E}(hr:Res1 s.heap U j W0.w w ks FW vs t t0)(hids:FW=Ce ks cs):
  Res1 s.heap U j W0.w w (k::ks) (Ce (k::ks) (c::cs)) (v::vs) e t0:=by
 subst hids;have Ez:∀m:Nat,m+1+ks.length=m+(k::ks).length:=fun m=>by simp;omega
 unfold P4 at he;split at he
 .rename_i k k' x;split at he
  next hk=>cases he;simp only[ne]at hk;have:=ar hk.1;subst this;cases hd;refine⟨hr.len,⟨E.rng_ok hv x hk.2,hr.rng⟩,fun ds n' h1=> ?_⟩;obtain⟨h2,h3⟩:=ff h1;obtain⟨h4,h5⟩:=hr.at' ds (n'+1) h3;refine⟨by rw[<-Ez];exact h4,fun U' v0 DQ=> ?_⟩;obtain⟨h6,h7⟩:=h5 U' v0 DQ.2;refine⟨fun id j' hj=> ?_,h7⟩;simp only[aE,Af,C.den,E.I,h6 id j' hj,DQ.1,Tp h2]
  .cases he
 .rename_i x;cases he;cases hd;refine⟨hr.len,hr.rng,fun ds n' h1=> ?_⟩;obtain⟨h2,h3⟩:=ff h1;obtain⟨h4,h5⟩:=hr.at' ds (n'+1) h3;refine⟨by rw[<-Ez];exact h4,fun U' v0 DQ=> ?_⟩;obtain⟨h6,h7⟩:=h5 U' v0 DQ.2;refine⟨fun id j' hj=> ?_,h7⟩;have h8:U'.b (v0+n')=x.B U:=by rw[DQ.1];simp only[dB,Tp h2,ov]
  simp only[aE,Af,C.den,E.B,h6 id j' hj,h8]
 .rename_i g g';split at he
  next hg=>cases he;have:=Ak hg;subst this;cases hd;refine⟨hr.len,hr.rng,fun ds n' h1=> ?_⟩;obtain⟨h2,h3⟩:=ff h1;obtain⟨h4,h5⟩:=hr.at' ds (n'+1) h3;refine⟨by rw[<-Ez];exact h4,fun U' v0 DQ=> ?_⟩;obtain⟨h6,h7⟩:=h5 U' v0 DQ;refine⟨fun id j' hj=> ?_,h7⟩;simp only[aE,Af,C.den,h6 id j' hj]
  .cases he
 .cases he;cases hd;refine⟨hr.len,hr.rng,fun ds n' h1=> ?_⟩;obtain⟨h2,h3⟩:=ff h1;obtain⟨h4,h5⟩:=hr.at' ds (n'+1) h3;refine⟨by rw[<-Ez];exact h4,fun U' v0 DQ=> ?_⟩;obtain⟨h6,h7⟩:=h5 U' v0 DQ;refine⟨fun id j' hj=> ?_,h7⟩;simp only[aE,Af,C.den,h6 id j' hj]
 .rename_i ks0 ty JP;split at he
  .rename_i r EY;split at he
   .rename_i hq;cases he;simp only[ne]at hq;obtain⟨ho,Gp,hk,ht⟩:=hq;have QQ:=EY;rw[<-nt]at EY;obtain⟨sv,h1,h2⟩:=h.row JP r (iL EY);simp only[C.den,h1,YU,bv]at hd;subst hd;have e1:=cJ hk;have e2:=Ak ht;have e3:=RK.fits_eq Gp;subst e1 e2;have Ku:(Di s.heap j (ZA JP)).v=sv.v:=by rw[aeJ,h1];rfl
    refine⟨by simp[Ce,List.filter,CK.isSl,hr.len],⟨h2.rows,hr.rng⟩,fun ds n' h3=> ?_⟩;obtain⟨h4,h5⟩:=ff h3;obtain⟨h6,h7⟩:=hr.at' ds (n'+1) h5;refine⟨by rw[<-Ez];exact h6,fun U' v0 DQ=> ?_⟩;obtain⟨h8,h9⟩:=h7 U' v0 DQ.2;refine⟨fun id j' hj=> ?_,fun i u q hi GD=> ?_⟩
    .have JX:=hj 0 (ZA JP) rfl;rw[ZS]at JX;have HL:=h8 (id+1) j' (fun i u hi=>by
      have:=hj (i+1) u Yj;rwa [show id+(i+1)=id+1+i by omega]at this)
     simp only[aE,Af,C.den,JX,YU,HL,Ku]
    .cases i with
     |zero=>
       simp only[Ce,cy,bv]at hi;simp only[bz,cy,bv]at GD;subst hi GD;have hR:(E.g (v0+n')).R U'=r.l.R U:=by simp only[E.R];rw[DQ.1,Vs h4]
       rcases cC r.ks with⟨_,g2⟩|⟨_,g2⟩
       .have WX:H5 s.heap JP=ZB:=by simp[H5,QQ,e3,g2,RK.isEv]
        have Av:Di s.heap j (ZA JP)=sv:=by simp[Di,WX,h1]
        rw[Av];exact RowOk.swap (q:=r) rfl rfl ho.symm hR (by rw[e3,g2];trivial) h2
       .have WX:H5 s.heap JP=ZC:=by simp[H5,QQ,e3,g2,RK.isEv]
        have Av:Di s.heap j (ZA JP)={sv with z:=[]}:=by simp[Di,WX,h1]
        rw[Av];have h2:=h2.1 (e3.trans g2);refine RowOk.mk_own g2 (by rw[hR];exact h2.n) (by rw[hR];exact h2.rows) h2.pos ?_;rw[hR];exact h2.own ho
     |succ i=>exact h9 i u q Yj (by simpa[bz]using GD)
   .cases he
  .cases he
 .rename_i ks0 ty;split at he
  .cases he
  .rename_i k0 ks1;cases he;cases hd;have AY:RowsIn (k0::ks1) []:=⟨fun r hr=>(by cases hr),by simp⟩
   refine⟨by simp[Ce,List.filter,CK.isSl,hr.len],⟨AY,hr.rng⟩,fun ds n' h3=> ?_⟩;obtain⟨h4,h5⟩:=ff h3;obtain⟨h6,h7⟩:=hr.at' ds (n'+1) h5;refine⟨by rw[<-Ez];exact h6,fun U' v0 DQ=> ?_⟩;obtain⟨h8,h9⟩:=h7 U' v0 DQ.2;refine⟨fun id j' hj=> ?_,fun i u q hi GD=> ?_⟩
   .have JX:=hj 0 ZE rfl;rw[ZS]at JX;have HL:=h8 (id+1) j' (fun i u hi=>by
     have:=hj (i+1) u Yj;rwa [show id+(i+1)=id+1+i by omega]at this)
    simp only[aE,Af,C.den,JX,YU,HL];rfl
   .cases i with
    |zero=>
      simp only[Ce,cy,bv]at hi;simp only[bz,cy,bv]at GD;subst hi GD;have hR:(E.g (v0+n')).R U'=[]:=by simp only[E.R];rw[DQ.1,Vs h4];rfl
      rcases cC (k0::ks1)with⟨g1,g2⟩|⟨_,g2⟩
      .exact EvOk.row ⟨g1,by rw[hR];rfl,by rw[hR];exact AY,fun k hk=>absurd hk lE,fun _ p hp=>Yn,[],by rw[hR];rfl,fun _=>by rw[hR];exact World.ownsRow_nil _ _ _ _,by rw[hR];exact RdRow.nil,fun i row x hr=>by rw[hR]at hr;simp at hr⟩ g2
      .exact RowOk.mk_own g2 (by rw[hR];rfl) (by rw[hR];exact AY) (by simp) (by rw[hR];exact World.ownsRow_nil _ _ _ _)
    |succ i=>exact h9 i u q Yj (by simpa[bz]using GD)
 .cases he
def xk{vk:List VK}(hv:Vk U vk){s:St}{j:J}{a:Act}{w:World}(h:Rel U n X W0 cx.fbs s.fs j a w):∀{ks:List CK} {cs:List C} {t e:E},oq vk s.heap ks cs t=ZA e->∀{vs:List Value},Af U j cs=ZA vs->Res1 s.heap U j W0.w w ks (Ce ks cs) vs e t
 |[],[],t,e,he,vs,hd=>by cases he;cases hd;exact aq0
 |k::ks,c::cs,t,e,he,vs,hd=>by
   simp only[oq,cY]at he;obtain⟨e',h1,h2⟩:=he;simp only[Af]at hd;cases hc:c.den U j with
   |none=>rw[hc]at hd;cases hd
   |some v=>
     cases hl:Af U j cs with
     |none=>rw[hc,hl]at hd;cases hd
     |some l=>rw[hc,hl]at hd;cases hd;exact alt hv h h2 hc (xk hv h h1 hl) rfl
def ab2(hv:Vk U vk)(h:Rel U n X W0 cx.fbs s.fs j a w){t e:E}(he:PE vk s.heap ks cs t=ZA e){vs:List Value}(hd:Af U j cs=ZA vs):Res1 s.heap U j W0.w w ks (Ce ks cs) vs e t:=xk hv h (si he) hd
structure Res2(hp:List Ob)(U:Env)(j:J)(w0 w:World)(ss:List Sh)(FW:List (Option Nat))(vs:List Value)(e:E):Prop where
 len:FW.length=((ss.flatMap (·.cks)).filter CK.isSl).length
 rng:gE (ss.flatMap (·.cks)) (e.D U)
 at':∀ds n,ds.drop n=e.D U->∀(U':Env) v0,eqs U' ds v0 n (ss.flatMap (·.cks))->
  (∀id (j':J),(∀(i:Nat) u,FW[i]? =ZA u->j'.s (id+i)=ZA (Di hp j u))->cm U' j' (bH v0 n id ss)=ZA vs)/\
  (∀(i:Nat) u r,FW[i]? =ZA u->(bz v0 n (ss.flatMap (·.cks)))[i]? =ZA r->RowOk U' w0.heap.size w (Di hp j u) r)
def iS{U:Env}{ds:List Dt}{v0:Nat}:∀(ks ks':List CK) (n:Nat),eqs U ds v0 n (ks++ks')->eqs U ds v0 n ks/\eqs U ds v0 (n+ks.length) ks'
 |[],ks',n,h=>⟨trivial,h⟩
 |k::ks,ks',n,h=>by
   have Ez:n+1+ks.length=n+(k::ks).length:=XC;cases k
   case int=>exact⟨⟨h.1,(iS ks ks' (n+1) h.2).1⟩,by rw[<-Ez];exact(iS ks ks' (n+1) h.2).2⟩
   case bool=>exact⟨⟨h.1,(iS ks ks' (n+1) h.2).1⟩,by rw[<-Ez];exact(iS ks ks' (n+1) h.2).2⟩
   case sl=>exact⟨⟨h.1,(iS ks ks' (n+1) h.2).1⟩,by rw[<-Ez];exact(iS ks ks' (n+1) h.2).2⟩
   all_goals exact⟨(iS ks ks' (n+1) h).1,by rw[<-Ez];exact(iS ks ks' (n+1) h).2⟩
def mo:∀{ks ks':List CK} {ds:List Dt},gE ks ds->gE ks' (ds.drop ks.length)->gE (ks++ks') ds
 |[],ks',ds,_,h=>by simpa using h
 |k::ks,ks',ds,h,h'=>by
   cases ds with
   |nil=>cases k<;>exact h.elim
   |cons d ds=>
     cases k
     case int=>cases d<;>first|exact⟨h.1,mo h.2 h'⟩|exact h.elim
     case sl=>cases d<;>first|exact⟨h.1,mo h.2 h'⟩|exact h.elim
     all_goals exact mo (ks:=ks) (ks':=ks') (ds:=ds) h h'
def pT{v0:Nat}:∀(ks ks':List CK) (n:Nat),bz v0 n (ks++ks')=bz v0 n ks++bz v0 (n+ks.length) ks'
 |[],ks',n=>rfl
 |k::ks,ks',n=>by have Ez:n+1+ks.length=n+(k::ks).length:=XC;cases k<;>simp only[List.cons_append,bz,pT ks ks' (n+1),Ez]
def iM{v0:Nat}:∀(ks:List CK) (n:Nat),(bz v0 n ks).length=(ks.filter CK.isSl).length
 |[],n=>rfl
 |k::ks,n=>by cases k<;>simp[bz,List.filter,CK.isSl,iM ks (n+1)]
def Res2.cons{hp:List Ob}{k:Sh}{Sd:List (Option Nat)}{us vs:List Value}{e t:E}(h1:Res1 hp U j w0 w k.cks FW us e t)(h2:Res2 hp U j w0 w ss Sd vs t)(hq:∀v0 n id,∃p,bH v0 n id (k::ss)=p::bH v0 (n+k.cks.length) (id+(k.cks.filter CK.isSl).length) ss/\∀(U':Env) (j':J),Af U' j' (aE v0 n id k.cks)=ZA us->BL U' j' p=ZA v):Res2 hp U j w0 w (k::ss) (FW++Sd) (v::vs) e:=by
 refine⟨by rw[ZR,List.filter_append,eg,eg,h1.len,h2.len],?_,fun ds n' hd U' v0 he=> ?_⟩
 .rw[ZR];have h3:=(h1.at' (e.D U) 0 rfl).1;rw[bJ]at h3;exact mo h1.rng (by rw[h3];exact h2.rng)
 .rw[ZR]at he;obtain⟨e1,e2⟩:=iS _ _ _ he;obtain⟨d1,d2⟩:=h1.at' ds n' hd;obtain⟨a1,a2⟩:=d2 U' v0 e1;obtain⟨b1,b2⟩:=h2.at' ds (n'+k.cks.length) d1 U' v0 e2;refine⟨fun id j' hj=> ?_,fun i u r hi hr=> ?_⟩
  .obtain⟨p,p1,p2⟩:=hq v0 n' id;rw[p1];have q1:=p2 U' j' (a1 id j' (fun i u hi=>hj i u (by
    rw[A9 (cZ.1 hi).1];exact hi)))
   have q2:=b1 (id+(k.cks.filter CK.isSl).length) j' (fun i u hi=>by
    have:=hj (FW.length+i) u (by rw[Bl Fn,Nat.add_sub_cancel_left];exact hi);rw[h1.len]at this;rwa [YW])
   simp only[cm,q1,q2]
  .rw[ZR,pT]at hr;rcases bt i FW.length with As|DH
   .rw[A9 As]at hi;rw[A9 (by rw[iM,<-h1.len];exact As)]at hr;exact a2 i u r hi hr
   .rw[Bl DH]at hi;rw[Bl (by rw[iM,<-h1.len];exact DH),iM,<-h1.len]at hr;exact b2 _ u r hi hr
def uw{vk:List VK}(hv:Vk U vk){s:St}{j:J}{a:Act}{w:World}(h:Rel U n X W0 cx.fbs s.fs j a w):∀{ss:List Sh} {xs:List (Bool×List C)} {e:E},qx vk s.heap ss xs=ZA e->∀{vs:List Value},cm U j xs=ZA vs->Res2 s.heap U j W0.w w ss (Gn ss xs) vs e
 |ss,xs,e,he,vs,hd=>by
   unfold qx at he;split at he
   .cases he;cases hd;exact⟨rfl,trivial,fun ds n h U' v0 he=>⟨fun id j' h=>rfl,fun i u r h=>by simp[Gn]at h⟩⟩
   .rename_i k ss c l;rw[cY]at he;obtain⟨e',h1,h2⟩:=he;simp only[cm]at hd;cases hc:BL U j (ZC,[c])with
    |none=>rw[hc]at hd;cases hd
    |some v=>
      cases hl:cm U j l with
      |none=>rw[hc,hl]at hd;cases hd
      |some us=>
        rw[hc,hl]at hd;cases hd;have Gm:c.den U j=ZA v:=hc;refine Res2.cons (k:=.one k) (ab2 hv h h2 (vs:=[v]) (by simp[Af,Gm])) (uw hv h h1 hl) (fun v0 n id=> ?_);refine⟨(ZC,aE v0 n id [k]),?_,fun U' j' hh=> ?_⟩
        .simp only[bH,Sh.cks,List.length_singleton];congr 2;cases k<;>simp[List.filter,CK.isSl]
        .simp only[Sh.cks]at hh;have:∃c',aE v0 n id [k]=[c']:=by cases k<;>exact⟨_,rfl⟩
         obtain⟨c',hc2⟩:=this;rw[hc2]at hh ⊢;simp only[Af]at hh;simp only[BL];cases hx:c'.den U' j' with
         |none=>rw[hx]at hh;cases hh
         |some y=>rw[hx]at hh;simpa using hh
   .rename_i ks ss cs l;rw[cY]at he;obtain⟨e',h1,h2⟩:=he;simp only[cm]at hd;cases hc:BL U j (ZB,cs)with
    |none=>rw[hc]at hd;cases hd
    |some v=>
      cases hl:cm U j l with
      |none=>rw[hc,hl]at hd;cases hd
      |some us=>rw[hc,hl]at hd;cases hd;simp only[BL,Ay]at hc;obtain⟨ws,hws,rfl⟩:=hc;refine Res2.cons (k:=.agg ks) (ab2 hv h h2 hws) (uw hv h h1 hl) (fun v0 n id=> ?_);exact⟨(ZB,aE v0 n id ks),rfl,fun U' j' hh=>by simp[BL,Sh.cks]at hh ⊢;exact hh⟩
   .cases he
def agE{U:Env}{nid:Nat}{vs:List Value}(ht:ZJ res.length 1 = !tup)(hl:vs.length=res.length)(h:cm U j (bH v0 0 nid res)=ZA vs):
  (fY res tup v0 nid).den U j=ZA (if h:vs.toArray.size=1 then vs.toArray[0]else .tuple vs.toArray):=by
 cases tup with
 |true=>
   have BM:¬vs.length=1:=fun e=>by rw[hl]at e;simp[e]at ht
   simp[fY,V.den,h,BM]
 |false=>
   have h1:res.length=1:=Ak (by simpa using ht)
   match res,vs,h1,hl,h with
   |[r],[v],_,_,h=>
     unfold fY;rw[if_neg (by simp)];cases r with
     |one k=>
       have:∃c',aE v0 0 nid [k]=[c']:=by cases k<;>exact⟨_,rfl⟩
       obtain⟨c',hc⟩:=this;simp only[bH,hc,cm,BL]at h ⊢;cases hx:c'.den U j with
       |none=>rw[hx]at h;cases h
       |some y=>rw[hx]at h;cases h;simpa[V.den]using hx
     |agg ks=>
       simp only[bH,cm,BL]at h ⊢;cases hx:Af U j (aE v0 0 nid ks)with
       |none=>rw[hx]at h;cases h
       |some y=>rw[hx]at h;cases h;simp[V.den,hx]
     |ptr ks=>simp only[bH,cm,BL,Af,C.den]at h ⊢;cases h;simp[V.den,Af,C.den]
def Res2.ret{hp:List Ob}{vs:List Value}{e:E}(h:Res2 hp U j w0 w ss FW vs e)(ht:ZJ ss.length 1 = !tup)(hl:vs.length=ss.length)(hx:Ext w0 w)(hd:∀(i i':Nat) a b k,FW[i]? =ZA a->FW[i']? =ZA b->(Di hp j a).v.ownBlock=ZA k->(Di hp j b).v.ownBlock=ZA k->i=i')(hz:∀a∈FW,NewZ w0 w (FW.map (Di hp j)) (Di hp j a)):RetOk ss tup w0 w (e.D U) (if h:vs.toArray.size=1 then vs.toArray[0]else .tuple vs.toArray):=by
 have MN:=fun U' v0 he=>h.at' (e.D U) 0 rfl U' v0 he;refine⟨hx,h.rng,FW.map (Di hp j),by rw[List.length_map,h.len],fun U' v0 nid j' he hs=> ?_,fun U' v0 he i u r hu hr=> ?_,fun i i' u u' k hu JT hk B2=> ?_,fun u hu=> ?_⟩
 .exact agE ht hl ((MN U' v0 he).1 nid j' (fun i u hi=>hs i _ (by rw[jn,hi];rfl)))
 .rw[jn,Ay]at hu;obtain⟨a,ha,rfl⟩:=hu;exact(MN U' v0 he).2 i a r ha hr
 .rw[jn,Ay]at hu JT;obtain⟨a,ha,rfl⟩:=hu;obtain⟨b,hb,rfl⟩:=JT;exact hd i i' a b k ha hb hk B2
 .obtain⟨a,ha,rfl⟩:=List.mem_map.1 hu;exact hz a ha
def UT(w:World)(k:Nat):Option Obj:=match w.heap[k]? with
 |some o=>if Cg o then ZA o else ZE
 |none=>ZE
def uB{k:Nat}{o:Obj}:UT w k=ZA o↔w.heap[k]? =ZA o/\Cg o=ZB:=by
 unfold UT;cases h:w.heap[k]? with
 |none=>simp
 |some o'=>
   cases hc:Cg o' with
   |true=>simp[hc];intro e;rw[<-e];exact hc
   |false=>simp[hc];intro e;rw[<-e];exact hc
structure Start(cx:Cx)(U:Env)(heap:List Ob)(j:J)(w:World):Prop where
 row:∀(b:Nat) ob,heap[b]? =ZA ob->∃r s,ob=.row r/\r.own=ZC/\j.s b=ZA s/\RowOk U w.heap.size w s r
 nos:∀b,heap.length<=b->j.s b=ZE
 nob:∀b,j.b b=ZE
 gh:j.g=⟨fun _=>ZE,UT w⟩
 zz:∀b s,j.s b=ZA s->∀p∈s.z,w.heap[p.1]? =ZA p.2/\Cg p.2=ZB
 fb:∀b cs,cx.fbs b=ZA cs->∃k vs,j.f b=ZA k/\k<w.heap.size/\Af U j cs=ZA vs/\∀(o:Nat) v,vs[o]? =ZA v->jG cs o=ZB->w.cell? ⟨k,o,ZE⟩=ZA v
def wG{vk:List VK}{heap:List Ob}:∀{ks:List CK} {cs:List C} {t e:E},oq vk heap ks cs t=ZA e->∀(i id:Nat),(Ce ks cs)[i]? =ZA (ZA id)->∃r,Km heap id=ZA r/\r.own=ZB
 |[],[],t,e,_,i,id,hi=>by simp[Ce]at hi
 |k::ks,c::cs,t,e,he,i,id,hi=>by
   simp only[oq,cY]at he;obtain⟨e',h1,h2⟩:=he;have ih:=wG h1;unfold P4 at h2;split at h2
   .exact ih i id hi
   .exact ih i id hi
   .exact ih i id hi
   .exact ih i id hi
   .rename_i JP;split at h2
    .rename_i r hr;split at h2
     .rename_i hq;simp only[ne]at hq;cases i with
      |zero=>simp only[Ce,cy,bv]at hi;subst hi;exact⟨r,hr,hq.1⟩
      |succ i=>exact ih i id Yj
     .exact XU
    .exact XU
   .cases i with
    |zero=>simp[Ce]at hi
    |succ i=>exact ih i id Yj
   .exact XU
def abq{heap:List Ob}{t e:E}(he:PE vk heap ks cs t=ZA e):∀(i id:Nat),(Ce ks cs)[i]? =ZA (ZA id)->∃r,Km heap id=ZA r/\r.own=ZB:=wG (si he)
def kF{vk:List VK}{heap:List Ob}:∀{ss:List Sh} {xs:List (Bool×List C)} {e:E},qx vk heap ss xs=ZA e->∀(i id:Nat),(Gn ss xs)[i]? =ZA (ZA id)->∃r,Km heap id=ZA r/\r.own=ZB
 |ss,xs,e,he,i,id,hi=>by
   unfold qx at he;split at he
   .simp[Gn]at hi
   .rename_i k ss c l;rw[cY]at he;obtain⟨e',h1,h2⟩:=he;have Bq:(Ce [k] [c]++Gn ss l)[i]? =ZA (ZA id):=hi;rcases bt i (Ce [k] [c]).length with As|DH
    .rw[A9 As]at Bq;exact abq h2 i id Bq
    .rw[Bl DH]at Bq;exact kF h1 _ id Bq
   .rename_i ks ss cs l;rw[cY]at he;obtain⟨e',h1,h2⟩:=he;have Bq:(Ce ks cs++Gn ss l)[i]? =ZA (ZA id):=hi;rcases bt i (Ce ks cs).length with As|DH
    .rw[A9 As]at Bq;exact abq h2 i id Bq
    .rw[Bl DH]at Bq;exact kF h1 _ id Bq
   .cases he
def qw{vk:List VK}{heap:List Ob}:∀{ss:List Sh} {xs:List (Bool×List C)} {e:E},qx vk heap ss xs=ZA e->xs.length=ss.length
 |ss,xs,e,he=>by
   unfold qx at he;split at he
   .rfl
   .rw[cY]at he;obtain⟨e',h1,_⟩:=he;simp[qw h1]
   .rw[cY]at he;obtain⟨e',h1,_⟩:=he;simp[qw h1]
   .cases he
def dD{f:FuncId}(hf:P.funcs[f]? =ZA fn)(HY:(fn.name== "runtime.NumGoroutine")=ZC)(hb:fn.body.isNone=ZC)(args:Array Value)(w:World):(callFunc f args).run P w=.ok (.enter f args) w:=by
 have h1:fn.name≠ "runtime.NumGoroutine" :=by simpa using HY
 cases hc:fn.body with
 |none=>rw[hc]at hb;cases hb
 |some c=>simp[callFunc,hf,h1,hc,program,ZI,Sem.run]
def ad4{xs:List (Bool×List C)}{vs:List Value}(h:cm U j xs=ZA vs):(SM xs).den U j=ZA (if h:vs.toArray.size=1 then vs.toArray[0]else .tuple vs.toArray):=by
 have tup:xs.length≠1->(V.tup xs).den U j=ZA (if h:vs.toArray.size=1 then vs.toArray[0]else .tuple vs.toArray):=fun hn=>by have hl:=km h;rw[dif_neg (by simpa[hl]using hn)];simp[V.den,h]
 match xs,h with
 |[],h=>exact tup (by simp)
 |[(ZB,cs)],h=>
   simp only[cm]at h;cases hc:BL U j (ZB,cs)with
   |none=>rw[hc]at h;cases h
   |some v=>rw[hc]at h;cases h;exact hc
 |[(ZC,[c])],h=>
   simp only[cm]at h;cases hc:BL U j (ZC,[c])with
   |none=>rw[hc]at h;cases h
   |some v=>rw[hc]at h;cases h;exact hc
 |[(ZC,[])],h=>simp[cm,BL]at h
 |[(ZC,_::_::_)],h=>simp[cm,BL]at h
 |x::y::l,h=>
   have e:SM (x::y::l)=.tup (x::y::l):=by rcases x with⟨_|_,_|⟨_,_|⟨_,_⟩⟩⟩<;>rfl
   rw[e];exact tup (by simp)
def amw{U':Env}{n2:Nat}{s':St}{j':J}{a':Act}(hr:At cx U n X W0 s j a w)(AU:At cx U' n2 (a.tmps.toList++X) {W0 with top:=ZC} s' j' a' w')(Ea:(ZJ s'.tmps.old.length (s.tmps.old.length+1)&&ZJ s'.tmps.pop.n s.n)=ZB):At cx U' n X W0 ⟨s'.tmps.pop,s'.heap⟩ j' a w':=by
 rw[ne]at Ea;have E7:=hr.rel.size;have Lg:s'.tmps.old≠[]:=fun e=>by have:=Ak Ea.1;rw[e]at this;simp at this
 have R8:s'.tmps.n=n2:=AU.own;have Rs:∀i:Nat,(St.mk s'.tmps.pop s'.heap).fs.tmp i=s'.fs.tmp (n2+i):=fun i=>by simp only[St.fs,Ax];rw[TM.pop_get Lg,R8]
 refine⟨⟨hr.rel.defers,E7,fun t ht=> ?_,fun i v hi=> ?_,AU.rel.box,AU.rel.nob,AU.rel.inj,AU.rel.row,AU.rel.nor,AU.rel.sep,AU.rel.rsep,AU.rel.fb,AU.rel.ext,⟨AU.rel.gs.at',AU.rel.gs.box,AU.rel.gs.row,AU.rel.gs.md,AU.rel.gs.nd,AU.rel.gs.lp,AU.rel.gs.nol,AU.rel.gs.ev,AU.rel.gs.tb⟩⟩,?_,(Ak Ea.2).trans hr.own⟩
 .have PJ:t<a.tmps.size:=by rw[E7];exact ht
  refine⟨a.tmps[t],Array.getElem?_eq_getElem PJ,?_⟩;rw[Rs];exact AU.rel.sav t _ (by rw[A9 (by simpa using PJ),lx];exact Array.getElem?_eq_getElem PJ)
 .rw[Rs];have:=AU.rel.sav (n+i) v (by rw[Bl (by simp[E7])];simpa[E7]using hi);exact this
 .have h3:=AU.len;simp only[eg,Array.length_toList,E7]at h3;have h4:=TM.pop_length Lg;show s'.tmps.pop.length=_;omega
def abe(hr:At cx U n X W0 s j a w){F:Fz}{m:Nat}(MN:∀i:Nat,F.tmp (m+i)=s.fs.tmp i)(i:Nat)(v:Value)(hi:(a.tmps.toList++X)[i]? =ZA v):F.tmp (m+i)=.top\/(F.tmp (m+i)).den U j=ZA v:=by
 have E7:=hr.rel.size;rw[MN];rcases bt i n with h1|h1
 .rw[A9 (by simpa[E7]using h1)]at hi;obtain⟨v',h2,h3⟩:=hr.rel.tmp i h1;rw[lx,h2]at hi;cases hi;exact h3
 .rw[Bl (by simpa[E7]using h1)]at hi;have:=hr.rel.sav _ v hi;simp only[Array.length_toList,E7]at this;rw[show n+(i-n)=i by omega]at this;exact this
def rX{dep:Nat}{t:TT}{m:Nat}:∀{l:List (TT×Nat)},qp dep l=ZA (t,m)->∃off,off+(m+dep)=fd l/\∀i,i<m->ja l (off+i)=ZA (t.get i)
 |[],h=>by cases h
 |(t0,n0)::l,h=>by
   simp only[qp]at h;split at h
   next hb=>cases h;exact⟨0,by rw[<-Ak hb];simp[fd],fun i hi=>by rw[bJ];simp[ja,hi]⟩
   .obtain⟨off,h1,h2⟩:=rX h;refine⟨n0+off,by simp only[fd];omega,fun i hi=> ?_⟩;simp only[ja];rw[if_neg Fn,show n0+off+i-n0=off+i by omega];exact h2 i hi
def akn{r:RfS}{rf:Rf}{t:TT}{m:Nat}(hr:At cx U n X W0 s j a w){A B:List Value}(hX:X=A++(rf.tmps.toList++B))(hB:B.length=r.dep)(BT:rf.tmps.size=m)(hf:qp r.dep s.tmps.old=ZA (t,m)):
  At cx U m (a.tmps.toList++X) {W0 with top:=ZC} ⟨⟨t,m,(s.tmps.cur,s.tmps.n)::s.tmps.old⟩,s.heap⟩ j {tmps:=rf.tmps,defers:=[]} w:=by
 obtain⟨off,h1,h2⟩:=rX hf;have hn:s.tmps.n=n:=hr.own;have A0:X.length=fd s.tmps.old:=by have h3:=hr.len;unfold TM.length at h3;omega
 have hA:A.length=off:=by have:=congrArg List.length hX;simp only[eg,Array.length_toList]at this;omega
 refine⟨⟨rfl,BT,fun i hi=> ?_,abe hr (fun i=> ?_),hr.rel.box,hr.rel.nob,hr.rel.inj,hr.rel.row,hr.rel.nor,hr.rel.sep,hr.rel.rsep,hr.rel.fb,hr.rel.ext,⟨hr.rel.gs.at',hr.rel.gs.box,hr.rel.gs.row,hr.rel.gs.md,hr.rel.gs.nd,hr.rel.gs.lp,hr.rel.gs.nol,hr.rel.gs.ev,hr.rel.gs.tb⟩⟩,?_,rfl⟩
 .have Gx:i<rf.tmps.size:=by rw[BT];exact hi
  refine⟨rf.tmps[i],Array.getElem?_eq_getElem Gx,?_⟩;have h3:=hr.rel.sav (off+i) rf.tmps[i] (by
   have e:rf.tmps.toList.length=m:=by simp[BT]
   rw[hX,Bl Fn,A9 Fn];rw[show off+i-A.length=i by omega,lx];exact Array.getElem?_eq_getElem Gx)
  have h4:s.fs.tmp (n+(off+i))=t.get i:=by simp only[St.fs,Ax,TM.get?];rw[if_neg Fn,show n+(off+i)-s.tmps.n=off+i by omega,h2 i hi];rfl
  have h5:(St.mk ⟨t,m,(s.tmps.cur,s.tmps.n)::s.tmps.old⟩ s.heap).fs.tmp i=t.get i:=by simp only[St.fs,Ax,TM.get?];rw[if_pos hi];rfl
  rw[h4]at h3;rw[h5];exact h3
 .simp only[St.fs,Ax,TM.get?];rw[if_neg Fn,show m+i-m=i by omega];rfl
 .simp only[TM.length,fd,eg,Array.length_toList,hr.rel.size];rw[hn,<-A0]
def aav{X:List Value}{W0:Wb}{heap:List Ob}{j:J}{w:World}:∀{ps:List Nat} {vs:List V} {us:List Value} {tm Uh:TM} {a:Act},Vz tm ps vs=ZA Uh->At cx U n X W0 ⟨tm,heap⟩ j a w->us.length=vs.length->(∀(i:Nat) x,vs[i]? =ZA x->∃u,us[i]? =ZA u/\x.den U j=ZA u)->
  At cx U n X W0 ⟨Uh,heap⟩ j {a with tmps:=(ps.zip us).foldl (fun t p=>t.setIfInBounds p.1 p.2) a.tmps} w/\ps.length=us.length
 |[],[],[],tm,Uh,a,h,hr,_,_=>by cases h;exact⟨hr,rfl⟩
 |p::ps,v::vs,u::us,tm,Uh,a,h,hr,hl,hd=>by
   simp only[Vz]at h;split at h
   .rename_i hp;have hp:p<tm.n:=by simpa[Nat.blt_eq]using hp
    obtain⟨u',h1,h2⟩:=hd 0 v rfl;simp only[cy,bv]at h1;subst h1;have hn:tm.n=n:=hr.own;have h3:At cx U n X W0 ⟨tm.set p v,heap⟩ j (a.put (ZA p) u) w:=by
     refine⟨?_,hr.len,hr.own⟩;have h4:=hr.rel.put (dst:=ZA p) h2 (fun d hd=>by cases hd;omega);have e:(St.mk (tm.set p v) heap).fs=(St.mk tm heap).fs.put (ZA p) v:=by
      refine Fz.ext' (fun t=> ?_) (fun _=>rfl) (fun _=>rfl) (fun _=>rfl);simp only[Fz.put,St.fs,Ax,TM.get_set tm v hp];by_cases ht:p=t
      .subst ht;simp
      .simp[ht]
     rw[e];exact h4
    obtain⟨h5,h6⟩:=aav h h3 Yh (fun i x hx=>hd (i+1) x Xz);exact⟨h5,by simp[h6]⟩
   .exact Xo
 |[],_::_,_,_,_,_,h,_,_,_=>by cases h
 |_::_,[],_,_,_,_,h,_,_,_=>by cases h
 |[],[],_::_,_,_,_,_,_,hl,_=>by simp at hl
 |_::_,_::_,[],_,_,_,_,_,hl,_=>by simp at hl
def acI{x:LS}(h:LS.same x .ready=ZB):x=.ready:=by cases x<;>first|rfl|cases h
def aps(hm:P.follows .mixedOrders=ZB)(hT:∀t i,(t,i)∈cx.ty->TIok P t i)(hS:∀s∈cx.sm,SmOk P sp s)(AR:∀s∈cx.sm,∀s'∈cx.sm,s.key=s'.key->s=s'){cl:Iz}{r:RfS}(CV:CallOk P sp G cx (ZA r) cl)
  {id:Nat}   {kw:Kw} {k:V->St->Kw->Tr} {R:Value->World->Prop}        {l:Nat} (h:(OE cl cx fuel r id args s kw k).holds sp G U I) (hg:Good sp cx.sm U kw) (hr:At cx U n X W0 s j a w) (ht:Tie sp (ZA r) X W0)
  (MG:j.g.y id=ZA l) (hl:vals.length=args.length) (hd:∀(i:Nat) x,args[i]? =ZA x->∃u,vals[i]? =ZA u/\x.den U j=ZA u)
  (hR:∀v s' An U' I' j' w' u,(k v s' An).holds sp G U' I'->Good sp cx.sm U' An->Ag kw.vk.length U U'->(∀m,m<kw.lv->I' m=I m)->kw.lv<=An.lv->kw.vk.length<=An.vk.length->v.den U' j'=ZA u->At cx U' n X W0 s' j' a w'->R u w'):
  ∃f tmps assign body,(Instr.yield l vals.toArray).run P w=.ok (.round l f tmps assign body) w/\∀ro,RoundIn (Fw ro) 0 P l f tmps assign body w fun e w'=>∃u,e=.returned u/\R u w':=by
 obtain⟨t0,rf,A,B,t1,t2,t3,t4,t5,t6,t7⟩:=ht;unfold OE at h;split at h<;>first|exact h.elim|skip
 rename_i y t m hy hf;split at h<;>first|exact h.elim|skip
 rename_i Ea;simp only[ne]at Ea;have hm0:m=r.len:=Ak Ea.1;split at h<;>first|exact h.elim|skip
 rename_i tm htm;have hy0:s.fs.lp id=ZA y:=oe.2 hy;obtain⟨rf',o,e1,e2,e3,e4,e5,e6⟩:=hr.rel.lpZ hy0;rw[t1]at e1;cases e1;have hll:l=rf.l:=by rw[MG]at e2;exact ZN e2
 subst hll;have h0:=akn (r:=r) (rf:=rf) hr t6 t7 (t5.trans hm0.symm) hf;obtain⟨h1,h2⟩:=aav htm h0 hl hd;have Gy:vals.toArray.size=o.params.size:=by rw[e5.ps,t2];simpa using h2.symm
 refine⟨o.fn,_,o.assign,o.body,run_yield e4 Gy,fun ro=>roundIn_of_wpIn (F:=Fw ro) trivial ?_⟩;have J8:(Fw ro).inRound rf.l=Fw (ZA rf.l):=rfl;rw[J8];have etm:(o.params.zip vals.toArray).foldl (fun tmps (x:Nat×Value)=>match x with|(t,a)=>tmps.setIfInBounds t a) o.tmps=(r.ps.toList.zip vals).foldl (fun t p=>t.setIfInBounds p.1 p.2) rf.tmps:=by rw[e5.ps,e5.tmps,t2,<-Array.foldl_toList,Array.toList_zip]
 rw[etm,e5.assign,t3];have SD:Tie sp (ZA r) (a.tmps.toList++X) {W0 with top:=ZC}:=(show Tie sp (ZA r) X {W0 with top:=ZC}from⟨t0,rf,A,B,t1,t2,t3,t4,t5,t6,t7⟩).more _;refine oP (rl:=ZE) (ry:=ZA r) CV (fun f hf=>by cases hf) hm hT hS AR fuel r.assign {W0 with top:=ZC} _ kw _ _ U I j _ w SD (fun e=>by cases e) h hg h1 (fun M1 sg s1 Ch U1 I1 j1 a1 w1 hM1 h' CQ C0 D2 B9 CP AU=> ?_);have hM1:M1=W0.M:=hM1 rfl;subst hM1;cases sg with
 |exit id=>exact h'.elim
 |ret=>exact h'.elim
 |normal=>
   dsimp only at h';split at h'<;>first|exact h'.elim|skip
   rename_i y1 Qd;split at h'<;>first|exact h'.elim|skip
   rename_i PC;rw[ne]at PC;have Ru:s1.fs.lp id=ZA y1:=oe.2 Qd;obtain⟨Tv,o1,f1,f2,f3,f4,f5,f6⟩:=AU.rel.lpZ Ru;have:Tv=rf:=by have h8:W0.rf=ZA Tv:=f1;rw[t1]at h8;exact(ZN h8).symm
   subst this;refine⟨_,run_beginRound f4 (by rw[f5.st,acI PC.1];rfl),?_⟩;have h9:=AU.rel.loopSet Ru (fun i yi hi=>Xk PC.2 i yi hi) f1 f2 f3 (y':=⟨.busy,y1.pend⟩) (o':={o1 with state:=.busy}) ⟨rfl,f5.pend,f5.ps,f5.assign,f5.body,f5.tmps⟩;rw[e5.body,t4];have hat1:At cx U1 m (a.tmps.toList++X) {W0 with top:=ZC} ⟨s1.tmps,s1.heap.set id (.loop ⟨.busy,y1.pend⟩)⟩ (j1.setz Tv.l (ZA (.loop {o1 with state:=.busy}))) a1 (w1.putObj Tv.l (.loop {o1 with state:=.busy})):=by refine⟨?_,AU.len,AU.own⟩;rw[show(St.mk s1.tmps (s1.heap.set id (.loop ⟨.busy,y1.pend⟩))).fs=s1.fs.setl id (ZA ⟨.busy,y1.pend⟩)from rW Qd _];exact h9
   refine oP (rl:=ZE) (ry:=ZA r) CV (fun f hf=>by cases hf) hm hT hS AR fuel r.body {W0 with top:=ZC} _ Ch _ _ U1 I1 _ _ _ SD (fun e=>by cases e) h' CQ hat1 (fun M2 sg s2 Dy U2 I2 j2 a2 w2 NM MA hg'' ha'' W2 hl'' hv'' hr''=> ?_);have NM:M2=W0.M:=NM rfl;subst NM;split at MA<;>first|exact MA.elim|skip
   rename_i y2 Vr;split at MA<;>first|exact MA.elim|skip
   rename_i Ni;rw[ne]at Ni;have HV:=amw hr hr'' Ni.1;have SU:(St.mk s2.tmps.pop s2.heap).fs.lp id=ZA y2:=oe.2 Vr;obtain⟨rf2,o2,g1,g2,g3,g4,g5,g6⟩:=HV.rel.lpZ SU;have:rf2=Tv:=by rw[t1]at g1;exact(ZN g1).symm
   subst this;have ag:Ag kw.vk.length U U2:=C0.trans (ha''.mono CP);have MW:∀m,m<kw.lv->I2 m=I m:=fun m hm=>(W2 m Fn).trans (D2 m hm);have Hv:∀(EI:Option Sig) (b:Bool),b=EI.isNone->(∀sg,EI=ZA sg->True)->(k (.one (.bool (.tt b))) ⟨s2.tmps.pop,s2.heap.set id (.loop ⟨if b then .ready else .done,EI⟩)⟩ Dy).holds sp G U2 I2->
    ∃v w',(Instr.endRound rf2.l (EI.map Sig.code)).run P w2=.ok v w'/\∃u,Ending.returned v=.returned u/\R u w':=by
    intro EI b hb _ hh;have hbn:(EI.map Sig.code).isNone=b:=by rw[hb];cases EI<;>rfl
    refine⟨_,_,run_endRound (EI.map Sig.code) g4,_,rfl,?_⟩;rw[hbn];have g9:=HV.rel.loopSet SU (fun i yi hi=>Xk Ni.2 i yi hi) g1 g2 g3 (y':=⟨if b then .ready else .done,EI⟩) (o':={o2 with state:=if b then .ready else .done,pending:=EI.map Sig.code}) ⟨by cases b<;>rfl,rfl,g5.ps,g5.assign,g5.body,g5.tmps⟩;refine hR _ _ Dy U2 I2 (j2.setz rf2.l (ZA (.loop {o2 with state:=if b then .ready else .done,pending:=EI.map Sig.code}))) _ (.bool b) hh hg'' ag MW Fn Fn (by simp[V.den,C.den,E.B]) ⟨?_,HV.len,HV.own⟩;rw[show(St.mk s2.tmps.pop (s2.heap.set id (.loop ⟨if b then .ready else .done,EI⟩))).fs=(St.mk s2.tmps.pop s2.heap).fs.setl id (ZA ⟨if b then .ready else .done,EI⟩)from rW Vr _];exact g9
   cases sg with
   |normal=>exact Hv ZE ZB rfl (fun _ _=>trivial) MA
   |exit id=>exact Hv (ZA (.exit id)) ZC rfl (fun _ _=>trivial) MA
   |ret=>exact Hv (ZA .ret) ZC rfl (fun _ _=>trivial) MA
def oQ(hm:P.follows .mixedOrders=ZB){fuel:Nat}:∀(d:Nat) (cx:Cx) (ry:Option RfS),(∀t i,(t,i)∈cx.ty->TIok P t i)->(∀s∈cx.sm,SmOk P sp s)->(∀s∈cx.sm,∀s'∈cx.sm,s.key=s'.key->s=s')->(∀p∈cx.fns,P.funcs[p.1]? =ZA p.2.1)->CallOk P sp G cx ry (zw fuel d cx ry)
 |0,cx,ry,_,_,_,_=>⟨fun _ _ _ _ _ _ _ _ _ _ _ _ _ _ _ _ h=>h.elim,fun _ _ _ _ _ _ _ _ _ _ _ _ _ _ _ _ h=>h.elim⟩
 |d+1,cx,ry,hT,hS,AR,hF=>by
   refine⟨fun g args s kw k R U I n X W0 j a w vals JQ h hg hr ht hl hd hR=> ?_,fun id args s kw k R U I n X W0 j a w vals l h hg hr ht MG hl hd hR=> ?_⟩
   .have Jo:Nat.blt g yB=ZB:=by simpa[Nat.blt_eq]using JQ
    simp only[zw,Jo,if_true]at h;split at h
    .exact h.elim
    .rename_i fn hints cuts Sl;have hf:P.funcs[g]? =ZA fn:=hF _ (ab Sl);split at h
     .rename_i c hc;split at h
      .exact h.elim
      .rename_i HY;refine⟨dD hf (by simpa using HY) (by rw[hc];rfl) _ w,?_⟩;refine uC hf hc ?_;have BT:vals.toArray.size=args.length:=Yh;have E7:=hr.rel.size;have HQ:args.length<=args.length+(fn.ntmps-args.length):=Nat.le_add_right _ _;have MN:∀i:Nat,(s.tmps.push args (args.length+(fn.ntmps-args.length))).get? (args.length+(fn.ntmps-args.length)+i)=s.tmps.get? i:=fun i=>TM.push_old_get s.tmps HQ i;refine oP (rl:=ZE) (cx:={cx with hints:=hints,cuts:=cuts}) (n:=args.length+(fn.ntmps-args.length)) (X:=a.tmps.toList++X) (oQ hm d _ ry hT hS AR hF) (fun f hf=>by cases hf) hm hT hS AR fuel c {W0 with top:=ZC} _ kw _ _ U I j _ w ht (fun e=>by cases e) h hg
        ⟨⟨rfl,by simp[hl],?_,?_,hr.rel.box,hr.rel.nob,hr.rel.inj,hr.rel.row,hr.rel.nor,hr.rel.sep,hr.rel.rsep,hr.rel.fb,hr.rel.ext,⟨hr.rel.gs.at',hr.rel.gs.box,hr.rel.gs.row,hr.rel.gs.md,hr.rel.gs.nd,hr.rel.gs.lp,hr.rel.gs.nol,hr.rel.gs.ev,hr.rel.gs.tb⟩⟩,?_,TM.push_n _ _ _⟩ ?_
       .intro t ht;rcases bt t args.length with h1|h1
        .obtain⟨u,hu,hdu⟩:=hd t args[t] (AH h1);refine⟨u,?_,.inr ?_⟩
         .rw[Array.getElem?_append_left (by simpa[hl]using h1)];simpa using hu
         .simp only[St.fs,Ax];rw[TM.push_arg s.tmps HQ h1,AH h1];exact hdu
        .refine⟨Go.undef,?_,.inr ?_⟩
         .rw[Array.getElem?_append_right (by simpa[hl]using h1)];rw[Array.getElem?_replicate,if_pos (by rw[BT];omega)]
         .simp only[St.fs,Ax];rw[TM.push_undef s.tmps HQ h1 ht];rfl
       .exact abe hr (fun i=>by simp only[St.fs,Ax,MN])
       .simp only[TM.push_length,hr.len,eg,Array.length_toList,E7]
       .intro M' sg s' An U' I' j' a' w' Em h' CQ C0 D2 B9 CP AU;have Em:M'=W0.M:=Em rfl;subst Em;have AU:At cx U' (args.length+(fn.ntmps-args.length)) (a.tmps.toList++X) {W0 with top:=ZC} s' j' a' w':=⟨AU.rel,AU.len,AU.own⟩
        have Hv:(match Hj cx s' fn.results.toList with
         |some xs=>if ZJ s'.tmps.old.length (s.tmps.old.length+1)&&ZJ s'.tmps.pop.n s.n then k (SM xs) ⟨s'.tmps.pop,s'.heap⟩ An else .stuck 129
         |none=>.stuck 81:Tr).holds sp G U' I'->a'.defers=[]/\∃v,(results fn a'.tmps).run P w'=.ok v w'/\∃u,Ending.returned v=.returned u/\R u w':=by
         intro h';split at h'
         .rename_i xs MQ;split at h'<;>first|exact h'.elim|skip
          rename_i Ea;obtain⟨vs,h1,h2⟩:=rE hT AU MQ;exact⟨AU.rel.defers,_,h2,_,rfl,hR (SM xs) _ An U' I' j' w' _ h' CQ C0 D2 B9 CP (ad4 h1) (amw hr AU Ea)⟩
         .exact h'.elim
        cases sg with
        |exit id=>exact h'.elim
        |normal=>exact Hv h'
        |ret=>exact Hv h'
     .exact h.elim
   .have Jo:Nat.blt (yB+id) yB=ZC:=by
     cases hb:Nat.blt (yB+id) yB with
     |false=>rfl
     |true=>
       have:yB+id<yB:=by simpa[Nat.blt_eq]using hb
       omega
    simp only[zw,Jo]at h;split at h
    .cases ‹ZC=ZB›
    .split at h
     next r=>rw[show yB+id-yB=id by omega]at h;obtain⟨f,tm,as,bd,h1,h2⟩:=aps (cx:={cx with hints:=r.hints,cuts:=r.cuts}) hm hT hS AR (oQ hm d {cx with hints:=r.hints,cuts:=r.cuts} (ZA r) hT hS AR hF) h hg ⟨hr.rel,hr.len,hr.own⟩ ht MG hl hd (R:=R) (fun v s' An U' I' j' w' u q1 q2 q3 q4 q5 q6 q7 q8=>hR v s' An U' I' j' w' u q1 q2 q3 q4 q5 q6 q7 ⟨q8.rel,q8.len,q8.own⟩);exact⟨f,tm,as,bd,h1,h2⟩
     .exact h.elim
def aqO(hF:∀p∈cx.fns,P.funcs[p.1]? =ZA p.2.1)(hm:P.follows .mixedOrders=ZB)(hT:∀t i,(t,i)∈cx.ty->TIok P t i)(hS:∀s∈cx.sm,SmOk P sp s)(AR:∀s∈cx.sm,∀s'∈cx.sm,s.key=s'.key->s=s'){f:Nat}(hf:P.funcs[f]? =ZA fn){heap:List Ob}{kw:Kw}(B6:∀(i:Nat) x,args[i]? =ZA x->∃u,vals[i]? =ZA u/\x.den U j=ZA u)(A0:vals.length=args.length)(ht:ZJ cx.res.length 1 = !tup){X:List Dt}(h:(Pk cx fuel fn args heap kw).holds sp (fun U e=>e.D U=X) U I)(hg:Good sp cx.sm U kw)(w:World)(EF:Start cx U heap j w)(NF:sp.hw w):Calls P f vals.toArray w fun e w'=>∃v,e=.returned v/\RetOk cx.res tup w w' X v:=by
 unfold Pk at h;split at h
 .rename_i c hc;refine kQ.1 (callsIn_of_wp_marks (F:=Fw ZE) (n:=0) hf hc trivial ?_);have BT:vals.toArray.size=args.length:=by simpa using A0
  have jo:∀b,(BO heap b=ZE↔heap.length<=b)/\∀r,BO heap b=ZA (ZA r)->heap[b]? =ZA (.row r):=by
   intro b;refine⟨⟨fun hb=> ?_,fun hb=>by simp[BO,cf hb]⟩,fun r hb=> ?_⟩
   .rcases bt b heap.length with As|DH
    .obtain⟨r,s,e,_⟩:=EF.row b _ (AH As);simp[BO,AH As,e]at hb
    .exact DH
   .unfold BO at hb;split at hb
    next r' hr=>cases hb;exact hr
    .cases hb
    .cases hb
  have AK:∀b r,BO heap b=ZA (ZA r)->r.own=ZC:=fun b r hb=>by obtain⟨r',s,e,h1,_⟩:=EF.row b _ ((jo b).2 r hb);cases e;exact h1
  have QV:∀b,Ci heap b=ZE:=fun b=>by
   unfold Ci;split
   next cs ty hb=>obtain⟨r,s,e,_⟩:=EF.row b _ hb;cases e
   .rfl
  refine oP (P:=P) (n:=args.length+(fn.ntmps-args.length)) (X:=[]) (oQ hm 12 cx ZE hT hS AR hF) (fun f hf=>by cases hf;exact⟨rfl,fun r=>oQ hm 12 cx (ZA r) hT hS AR hF⟩) hm hT hS AR fuel c ⟨w,[],ZB,ZE,sp.hw,fun w' hx=>sp.hx w w' hx NF⟩ _ kw _ _ U I j _ w ⟨rfl,trivial⟩ (fun _=>⟨rfl,rfl⟩) h hg ⟨⟨rfl,by simp[A0],?_,fun i v hi=>(by simp at hi),fun b cs ty hb=> ?_,fun b _=>EF.nob b,fun b b' k hb=> ?_,fun b r hb=> ?_,fun b hb=>EF.nos b ((jo b).1.1 hb),fun b b' k r s hb=> ?_,fun b b' r r' s s' k hb ho=> ?_,EF.fb,Ext.refl w,⟨fun k o hz=>(by rw[EF.gh]at hz;have:=uB.1 hz;exact⟨this.1,fun e=>by rw[this.2]at e;cases e⟩),fun k o b hz e=>(by rw[EF.nob]at e;cases e),fun k o id r s hz hF hs hc e=>(by rw[EF.gh]at hz;have h1:=(uB.1 hz).2;have h2:r.own=ZC:=AK id r hF;exact hc.elim (fun hc=>Bool.noConfusion (h2.symm.trans hc)) (fun hc=>Bool.noConfusion (h1.symm.trans hc))),fun D hD=>(by cases hD),List.nodup_nil,fun id y hy=> ?_,fun id _ _=>(by rw[EF.gh]),fun id r s hF hs=> ?_,fun id r s hF hk hs=> ?_⟩⟩,(by rw[TM.push_length];rfl),TM.push_n _ _ _⟩ ?_
  .intro t ht;rcases bt t args.length with h1|h1
   .obtain⟨u,hu,hd⟩:=B6 t args[t] (AH h1);refine⟨u,?_,.inr ?_⟩
    .rw[Array.getElem?_append_left (by simpa[A0]using h1)];simpa using hu
    .simp only[St.fs,Ax];rw[TM.push_arg _ (Nat.le_add_right _ _) h1,AH h1];exact hd
   .refine⟨Go.undef,?_,.inr ?_⟩
    .rw[Array.getElem?_append_right (by simpa[A0]using h1)];rw[Array.getElem?_replicate,if_pos (by rw[BT];omega)]
    .simp only[St.fs,Ax];rw[TM.push_undef _ (Nat.le_add_right _ _) h1 ht];rfl
  .rw[show(St.mk (TM.push args (args.length+(fn.ntmps-args.length)) ⟨.u (.one .undef),0,[]⟩) heap).fs.box b=Ci heap b from rfl,QV]at hb;cases hb
  .rw[EF.nob]at hb;cases hb
  .obtain⟨r',s,e,h1,h2,h3⟩:=EF.row b _ ((jo b).2 r hb);cases e;exact⟨s,h2,h3⟩
  .rw[EF.nob]at hb;cases hb
  .rw[AK b r hb]at ho;cases ho
  .obtain⟨r,s,e,_⟩:=EF.row id _ (oe.1 hy);cases e
  .exact fun p hp=>by rw[EF.gh];have h1:=EF.zz id s hs p hp;exact⟨uB.2 h1,h1.2⟩
  .obtain⟨r',s',e,h1,h2,h3⟩:=EF.row id _ ((jo id).2 r hF);cases e;have:=(h3.2.1 (by rw[hk];rfl)).own;rw[h1]at this;cases this
  .intro M' sg s' An U' I' j1' MP w1' _ h' CQ C0 D2 B9 CP Hs;have RX:(∀j' w',At cx U' (args.length+(fn.ntmps-args.length)) [] ⟨w,[],ZB,ZE,sp.hw,fun w' hx=>sp.hx w w' hx NF⟩ s' j' {MP with defers:=[]} w'->∃v,(results fn MP.tmps).run P w'=.ok v w'/\∃u,Ending.returned v=.returned u/\RetOk cx.res tup w w' X u)->LeavesInM (Fw ZE) 0 P fn MP.tmps (fun e w'=>∃v,e=.returned v/\RetOk cx.res tup w w' X v) MP.defers .returning w1':=by
    intro hk;rw[Hs.rel.defers];refine Rel.unmark M' rfl Hs.rel (fun j' w' h2=> ?_);obtain⟨v,k1,k2⟩:=hk j' w' ⟨h2,Hs.len,Hs.own⟩;exact⟨v,k1,k2⟩
   have Hv:∀j' w',At cx U' (args.length+(fn.ntmps-args.length)) [] ⟨w,[],ZB,ZE,sp.hw,fun w' hx=>sp.hx w w' hx NF⟩ s' j' {MP with defers:=[]} w'->∀xs,Hj cx s' fn.results.toList=ZA xs->∀e,qx An.vk s'.heap cx.res xs=ZA e->oa (Gn cx.res xs)=ZB->e.D U'=X->∃v,(results fn MP.tmps).run P w'=.ok v w'/\∃u,Ending.returned v=.returned u/\RetOk cx.res tup w w' X u:=by
    intro j' w' AU xs MQ e he hn hX;obtain⟨vs,h1,h2⟩:=rE hT AU MQ;have h3:=uw CQ.vk AU.rel he h1;have h4:=h3.ret (tup:=tup) ht (by rw[km h1,qw he]) AU.rel.ext (fun i i' a b k hi Bq hk B2=> ?_) (fun a ha p hp=> ?_)
    .rw[hX]at h4;exact⟨_,h2,_,rfl,h4⟩
    .cases a with
     |none=>cases hk
     |some a=>
       cases b with
       |none=>cases B2
       |some b=>obtain⟨r,Hs,Lz⟩:=kF he i a hi;obtain⟨r',Pj,PP⟩:=kF he i' b Bq;rw[<-nt]at Hs Pj;have q1:=iL Hs;have q2:=iL Pj;obtain⟨s1,t1,_⟩:=AU.rel.row a r q1;obtain⟨s2,t2,_⟩:=AU.rel.row b r' q2;simp only[aeJ,t1,t2,Option.getD_some]at hk B2;have:=AU.rel.rsep a b r r' s1 s2 k q1 Lz q2 t1 t2 (mQ Lz hk) (mQ PP B2);subst this;exact wJ hn i i' a hi Bq
    .cases a with
     |none=>cases hp
     |some a=>
       obtain⟨i,hi⟩:=List.getElem?_of_mem ha;obtain⟨r,Hs,Lz⟩:=kF he i a hi;have G5:=Hs;rw[<-nt]at Hs;have q1:=iL Hs;obtain⟨s1,t1,t3⟩:=AU.rel.row a r q1;cases Av:H5 s'.heap a with
       |false=>simp[Di,Av]at hp
       |true=>
         have CF:Di s'.heap j' (ZA a)=s1:=by simp[Di,Av,t1]
         rw[CF]at hp;have DP:r.kd=.ev:=by unfold H5 at Av;rw[G5]at Av;exact RK.isEv_eq Av
         obtain⟨z1,z2⟩:=AU.rel.gs.ev a r s1 q1 t1 p hp;refine⟨(AU.rel.gs.at' _ _ z1).1,z2,(t3.2.2 DP).zb Lz p hp,fun u hu e=> ?_⟩;obtain⟨b,hb,rfl⟩:=List.mem_map.1 hu;cases b with
         |none=>cases e
         |some b=>obtain⟨i',Bq⟩:=List.getElem?_of_mem hb;obtain⟨r',Pj,PP⟩:=kF he i' b Bq;rw[<-nt]at Pj;have q2:=iL Pj;obtain⟨s2,t2,_⟩:=AU.rel.row b r' q2;simp only[aeJ,t2,Option.getD_some]at e;exact AU.rel.gs.row _ _ b r' s2 z1 q2 t2 (.inl PP) (mQ PP e)
   have RP:(match Hj cx s' fn.results.toList with
     |some xs=>match qx An.vk s'.heap cx.res xs with
       |some e=>if oa (Gn cx.res xs)then .u e else .stuck 83
       |none=>.stuck 84
     |none=>.stuck 81:Tr).holds sp (fun U e=>e.D U=X) U' I'->LeavesInM (Fw ZE) 0 P fn MP.tmps (fun e w'=>∃v,e=.returned v/\RetOk cx.res tup w w' X v) MP.defers .returning w1':=by
    intro h';split at h'
    .rename_i xs MQ;split at h'
     .rename_i e he;split at h'
      next hn=>exact RX (fun j' w' AU=>Hv j' w' AU xs MQ e he hn h')
      .exact h'.elim
     .exact h'.elim
    .exact h'.elim
   cases sg with
   |exit id=>exact h'.elim
   |normal=>exact RP h'
   |ret=>exact RP h'
 .exact h.elim
end
def Tr.sc:Nat->Tr->Bool
 |_,.u _|_,.panic|_,.stuck _|_,.at _ _=>ZB
 |n,.br e t f=>e.sc n&&(t.sc n&&f.sc n)
 |n,.call _ ks args v0 t=>args.sc n&&(ZJ v0 n&&t.sc (n+ks.length))
 |n,.next _ args=>args.sc n
 |n,.loop _ v0 vks init body=>init.sc n&&(ZJ v0 n&&body.sc (n+vks.length))
 |n,.cut _ v0 vks pre body=>ZJ v0 n&&(pre.sc n&&body.sc (n+vks.length))
 |n,.any v0 _ t=>ZJ v0 n&&t.sc (n+1)
 |n,.both v0 a b=>ZJ v0 n&&(a.sc n&&b.sc n)
def Tr.asks(sp:Spec)(G:Env->E->Prop):Env->(Nat->List Dt->Prop)->Tr->Prop
 |U,_,.u e=>G U e
 |_,_,.panic=>False
 |_,_,.stuck _=>False
 |_,_,.at _ _=>False
 |U,I,.br e t f=>(e.B U=ZB->t.asks sp G U I)/\(e.B U=ZC->f.asks sp G U I)
 |U,I,.call key ks args v0 t=>sp.pre key (args.D U)/\(eqs U (sp.F key (args.D U)) v0 0 ks->t.asks sp G U I)
 |U,I,.next lv args=>I lv (args.D U)
 |U,I,.any v0 e t=>∀U',Ag v0 U U'->Ae .i64 (U'.i v0)=ZB->e.B U'=ZB->t.asks sp G U' I
 |U,I,.both _ a b=>a.asks sp G U I/\b.asks sp G U I
 | U,I,.loop lv v0 vks init body=>∃(inv:List Dt->Prop) (μ:List Dt->Nat),inv (init.D U)/\
   ∀U',Ag v0 U U'->okDs vks (varsD U' v0 vks)->inv (varsD U' v0 vks)->body.asks sp G U' (HE I lv fun Lc=>inv Lc/\μ Lc<μ (varsD U' v0 vks))
 | U,I,.cut lv v0 vks pre body=>∃inv:List Dt->Prop,pre.asks sp G U (HE I lv inv)/\
   ∀U',Ag v0 U U'->okDs vks (varsD U' v0 vks)->inv (varsD U' v0 vks)->body.asks sp G U' I
def Tr.asks_mono{G:Env->E->Prop}:∀(t:Tr) (U:Env) (I I':Nat->List Dt->Prop),(∀n ds,I n ds->I' n ds)->t.asks sp G U I->t.asks sp G U I':=by
 intro t
 induction t with
 |u|panic|stuck | «at» =>intro U I I' _ h;exact h
 |br e t f HF ihf=>intro U I I' hi h;exact⟨fun hb=>HF U I I' hi (h.1 hb),fun hb=>ihf U I I' hi (h.2 hb)⟩
 |call key ks args v0 t ih=>intro U I I' hi h;exact⟨h.1,fun he=>ih U I I' hi (h.2 he)⟩
 |next lv args=>intro U I I' hi h;exact hi _ _ h
 |any v0 e t ih=>intro U I I' hi h;exact fun U' h1 h2 h3=>ih U' I I' hi (h U' h1 h2 h3)
 |both v0 a b iha ihb=>intro U I I' hi h;exact⟨iha U I I' hi h.1,ihb U I I' hi h.2⟩
 |loop lv v0 vks init body ih=>
   intro U I I' hi h;obtain⟨inv,μ,h1,h2⟩:=h;refine⟨inv,μ,h1,fun U' ha hd hv=>ih U' _ _ (fun n ds=> ?_) (h2 U' ha hd hv)⟩;unfold HE;split
   .exact id
   .exact hi n ds
 |cut lv v0 vks pre body ihp ihb=>
   intro U I I' hi h;obtain⟨inv,h1,h2⟩:=h;refine⟨inv,ihp U _ _ (fun n ds=> ?_) h1,fun U' ha hd hv=>ihb U' I I' hi (h2 U' ha hd hv)⟩;unfold HE;split
   .exact id
   .exact hi n ds
def Env.put(U:Env)(v0:Nat)(ds:List Dt):Env:=⟨fun i=>if v0<=i then dI ds (i-v0)else U.i i,fun i=>if v0<=i then dB ds (i-v0)else U.b i,fun i=>if v0<=i then dL ds (i-v0)else U.l i⟩
def mw(U:Env)(v0:Nat)(ds:List Dt):Ag v0 U (U.put v0 ds):=fun i hi=>by have:¬v0<=i:=Fn;simp[Env.put,this]
def am8{U:Env}{ds:List Dt}{v0:Nat}:∀(ks:List CK) (n:Nat),(∀m,n<=m->m<n+ks.length->U.i (v0+m)=dI ds m/\U.b (v0+m)=dB ds m/\U.l (v0+m)=dL ds m)->eqs U ds v0 n ks
 |[],_,_=>trivial
 |k::ks,n,h=>by
   have h0:=h n (ZK _) (by simp);have h1:=am8 ks (n+1) (fun m h1 h2=>h m Fn (by simp at h2 ⊢;omega));cases k
   case int=>exact⟨h0.1,h1⟩
   case bool=>exact⟨h0.2.1,h1⟩
   case sl=>exact⟨h0.2.2,h1⟩
   all_goals exact h1
def zS{U:Env}{v0:Nat}{ds:List Dt}:∀(vks:List VK) (n:Nat),okDs vks (ds.drop n)->(∀m,n<=m->m<n+vks.length->U.i (v0+m)=dI ds m/\U.b (v0+m)=dB ds m/\U.l (v0+m)=dL ds m)->varsD U (v0+n) vks=ds.drop n
 |[],n,h,_=>by
   cases hd:ds.drop n with
   |nil=>rfl
   |cons d r=>rw[hd]at h;exact h.elim
 |k::vks,n,h,hv=>by
   cases hd:ds.drop n with
   |nil=>rw[hd]at h;cases k<;>exact h.elim
   |cons d r=>
     rw[hd]at h;obtain⟨d1,d2⟩:=ff hd;have ih:=zS vks (n+1) (by rw[d2];exact h.2) (fun m h1 h2=>hv m Fn (by simp at h2 ⊢;omega));rw[d2]at ih;obtain⟨h1,h2,h3⟩:=hv n (ZK _) (by simp);simp only[varsD];rw[show v0+n+1=v0+(n+1) by omega,ih];congr 1;have ok:=h.1;cases k with
     |int k=>
       cases d with
       |z x=>simp only[varD];rw[h1,Tp d1]
       |l L=>exact ok.elim
     |bool=>
       cases d with
       |z x=>simp only[varD];rw[h2];simp only[dB,Tp d1];rcases ok with rfl|rfl<;>rfl
       |l L=>exact ok.elim
     |list ks=>
       cases d with
       |z x=>exact ok.elim
       |l L=>simp only[varD];rw[h3,Vs d1]
def mt{U:Env}(h:okDs vks ds){U':Env}(ha:Ag (v0+vks.length) (U.put v0 ds) U'):varsD U' v0 vks=ds:=by refine(zS (v0:=v0) (ds:=ds) vks 0 h (fun m _ h2=> ?_));have:=ha (v0+m) Fn;simp only[Env.put,if_pos (Nat.le_add_right v0 m),Nat.add_sub_cancel_left]at this;exact⟨this.1.symm,this.2.1.symm,this.2.2.symm⟩
def adc{G:Env->E->Prop}:∀(t:Tr) (n:Nat) (U:Env) (I:Nat->List Dt->Prop),t.sc n=ZB->(∀U',Ag n U U'->t.asks sp G U' I)->∃U',Ag n U U'/\t.holds sp G U' I:=by
 intro t
 induction t with
 |u v=>intro n U I _ h;exact⟨U,Ag.refl n U,h U (Ag.refl n U)⟩
 |panic=>intro n U I _ h;exact(h U (Ag.refl n U)).elim
 |stuck m=>intro n U I _ h;exact(h U (Ag.refl n U)).elim
 | «at» m s=>intro n U I _ h;exact(h U (Ag.refl n U)).elim
 |next lv args=>intro n U I _ h;exact⟨U,Ag.refl n U,h U (Ag.refl n U)⟩
 |any v0 e t ih=>
   intro n U I hs h;simp only[Tr.sc,ne]at hs;have CP:=Ak hs.1;subst CP;refine⟨U,Ag.refl _ _,fun z hz=> ?_⟩;have IM:∀U',Ag (v0+1) (U.put v0 [.z z]) U'->U'.i v0=z:=fun U' Er=>by rw[<-(Er v0 Fn).1];simp[Env.put,dI]
   cases hb:e.B (U.put v0 [.z z])with
   |false=>exact⟨_,mw U v0 _,IM _ (Ag.refl _ _),fun hf=>by rw[hb]at hf;cases hf⟩
   |true=>
     by_cases BM:∃U',Ag (v0+1) (U.put v0 [.z z]) U'/\e.B U'=ZC
     .obtain⟨U',g1,g2⟩:=BM;exact⟨U',(mw U v0 _).trans (g1.mono Fn),IM U' g1,fun hf=>by rw[g2]at hf;cases hf⟩
     .have A8:∀U',Ag (v0+1) (U.put v0 [.z z]) U'->e.B U'=ZB:=fun U' g1=>by
       cases hq:e.B U' with
       |true=>rfl
       |false=>exact absurd ⟨U',g1,hq⟩ BM
      obtain⟨U',g1,g2⟩:=ih (v0+1) (U.put v0 [.z z]) I hs.2 (fun U' Er=>h U (Ag.refl _ _) U' ((mw U v0 _).trans (Er.mono Fn)) (by rw[IM U' Er];exact hz) (A8 U' Er));exact⟨U',(mw U v0 _).trans (g1.mono Fn),IM U' g1,fun _=>g2⟩
 |br e t f HF ihf=>
   intro n U I hs h;simp only[Tr.sc,ne]at hs;cases hb:e.B U with
   |true=>obtain⟨U',h1,h2⟩:=HF n U I hs.2.1 (fun U' ha=>(h U' ha).1 (by rw[<-(E.sc_eq ha e hs.1).2.1];exact hb));refine⟨U',h1,fun _=>h2,fun hf=> ?_⟩;rw[<-(E.sc_eq h1 e hs.1).2.1,hb]at hf;cases hf
   |false=>obtain⟨U',h1,h2⟩:=ihf n U I hs.2.2 (fun U' ha=>(h U' ha).2 (by rw[<-(E.sc_eq ha e hs.1).2.1];exact hb));refine⟨U',h1,fun hf=> ?_,fun _=>h2⟩;rw[<-(E.sc_eq h1 e hs.1).2.1,hb]at hf;cases hf
 |call key ks args v0 t ih=>
   intro n U I hs h;simp only[Tr.sc,ne]at hs;obtain⟨ha,hv,ht⟩:=hs;have CP:=Ak hv;subst CP;have VW:∀U',Ag (v0+ks.length) (U.put v0 (sp.F key (args.D U))) U'->Ag v0 U U':=fun U' Er=>(mw U v0 _).trans (Er.mono Fn);have he:∀U',Ag (v0+ks.length) (U.put v0 (sp.F key (args.D U))) U'->eqs U' (sp.F key (args.D U')) v0 0 ks:=fun U' Er=>by rw[<-(E.sc_eq (VW U' Er) args ha).2.2.2.2];refine am8 ks 0 (fun m h1 h2=> ?_);have:=Er (v0+m) Fn;simp only[Env.put,if_pos (Nat.le_add_right v0 m),Nat.add_sub_cancel_left]at this;exact⟨this.1.symm,this.2.1.symm,this.2.2.symm⟩
   obtain⟨U',h1,h2⟩:=ih (v0+ks.length) _ I ht (fun U' Er=>(h U' (VW U' Er)).2 (he U' Er));exact⟨U',VW U' h1,(h U' (VW U' h1)).1,he U' h1,h2⟩
 |both v0 a b iha ihb=>intro n U I hs h;simp only[Tr.sc,ne]at hs;obtain⟨hv,ha,hb⟩:=hs;have CP:=Ak hv;subst CP;obtain⟨U1,g1,g2⟩:=iha v0 U I ha (fun U' Er=>(h U' Er).1);obtain⟨U2,g3,g4⟩:=ihb v0 U I hb (fun U' Er=>(h U' Er).2);exact⟨U,Ag.refl _ _,⟨U1,g1,g2⟩,U2,g3,g4⟩
 |loop lv v0 vks init body ih=>
   intro n U I hs h;simp only[Tr.sc,ne]at hs;obtain⟨hi,hv,hb⟩:=hs;have CP:=Ak hv;subst CP;obtain⟨inv,μ,h1,h2⟩:=h U (Ag.refl _ _);refine⟨U,Ag.refl _ _,inv,μ,h1,fun ds hd De=> ?_⟩;obtain⟨U',g1,g2⟩:=ih (v0+vks.length) (U.put v0 ds) (HE I lv fun Lc=>inv Lc/\μ Lc<μ ds) hb (fun U' Er=>by
    have EN:=mt hd Er;have:=h2 U' ((mw U v0 ds).trans (Er.mono Fn)) (by rw[EN];exact hd) (by rw[EN];exact De);rw[EN]at this;exact this)
   exact⟨U',(mw U v0 ds).trans (g1.mono Fn),mt hd g1,g2⟩
 |cut lv v0 vks pre body ihp ihb=>
   intro n U I hs h;simp only[Tr.sc,ne]at hs;obtain⟨hv,hp,hb⟩:=hs;have CP:=Ak hv;subst CP;let J:List Dt->Prop:=fun ds=>∃(U1:Env) (inv:List Dt->Prop),Ag v0 U U1/\inv ds/\∀U',Ag v0 U1 U'->okDs vks (varsD U' v0 vks)->inv (varsD U' v0 vks)->body.asks sp G U' I;obtain⟨U2,k1,k2⟩:=ihp v0 U (HE I lv J) hp (fun U' ha=>by
    obtain⟨inv,h1,h2⟩:=h U' ha;refine pre.asks_mono U' _ _ (fun m ds=> ?_) h1;unfold HE;split
    .exact fun hi=>⟨U',inv,ha,hi,h2⟩
    .exact id)
   refine⟨U2,k1,J,k2,fun ds hd De=> ?_⟩;obtain⟨U1,inv,a1,a2,a3⟩:=De;obtain⟨U',g1,g2⟩:=ihb (v0+vks.length) (U1.put v0 ds) I hb (fun U' Er=>by
    have EN:=mt hd Er;exact a3 U' ((mw U1 v0 ds).trans (Er.mono Fn)) (by rw[EN];exact hd) (by rw[EN];exact a2))
   exact⟨U',(k1.symm.trans a1).trans ((mw U1 v0 ds).trans (g1.mono Fn)),mt hd g1,g2⟩
def aq3:C->Value->Bool
 |.int k (.p z),.int k' z'=>bE k k'&&fC z z'
 |.bool (.tt b),.bool b'=>b==b'
 |.np,.pointer ZE=>ZB
 |.nsl,.slice ZE 0 0=>ZB
 |.nf,.nilFunc=>ZB
 |.nmp,.map ZE=>ZB
 |.str .ln,.string s=>s.data.toList.isEmpty
 |_,_=>ZC
def xu:List C->List Value->Bool
 |[],[]=>ZB
 |c::cs,v::vs=>aq3 c v&&xu cs vs
 |_,_=>ZC
def alC(h:aq3 c v=ZB)(U:Env)(j:J):c.den U j=ZA v:=by
 unfold aq3 at h;split at h
 .simp only[ne]at h;rw[ar h.1,cR h.2];rfl
 .rw[cL]at h;rw[h];rfl
 .rfl
 .rfl
 .rfl
 .rfl
 next s=>obtain⟨⟨l⟩⟩:=s;have:l=[]:=Xx;subst this;rfl
 .exact Xo
def qB(U:Env)(j:J):∀{cs:List C} {vs:List Value},xu cs vs=ZB->Af U j cs=ZA vs
 |[],[],_=>rfl
 |c::cs,v::vs,h=>by simp only[xu,ne]at h;simp[Af,alC h.1,qB U j h.2]
def kO(P:Program):List Field->List (Nat×Nat)->Bool
 |[],[]=>ZB
 |f::fs,(off,ft)::l=>ZJ f.offset off&&(ZJ f.type ft&&((match P.info? ft with|some i=>!ZJ i.size 0|none=>ZC)&&kO P fs l))
 |_,_=>ZC
def Pq(P:Program)(t:Nat)(i:TI):Bool:=
 match P.info? t,P.underlying t with
 |some CL,ZA d=>
   (((match i.mapt with|none=>ZB|some (k,e)=>(match d with|.map k' e'=>ZJ k k'&&ZJ e e'|_=>ZC))&&(match i.kd with|0=>ZB|1=>(match d with|.pointer _=>ZB|_=>ZC)|2=>(match d with|.string=>ZB|_=>ZC)|_=>ZC))&&(match CL.zero with|some (.agg _)=>i.agg|some _=>!i.agg|none=>ZC))&&(ZJ CL.size i.size&&((match CL.zero with|some z=>xu i.zero z.cells.toList&&ZJ z.cells.toList.length i.size|none=>ZC)&&(ZJ CL.bytes i.bytes&&
   (match d with
    |.struct fs=>i.agg&&(i.arr.isNone&&(i.ik.isNone&&(!i.isb&&(i.sle.isNone&&(!i.fnt&&kO P fs.toList i.fields)))))
    |.array n e=>i.agg&&((match i.arr with|some (m,e')=>ZJ n m&&ZJ e e'|none=>ZC)&&(i.ik.isNone&&(!i.isb&&(i.sle.isNone&&(!i.fnt&&i.fields.isEmpty)))))
    |.int k=>!i.agg&&(i.arr.isNone&&((match i.ik with|some k'=>bE k k'|none=>ZC)&&(!i.isb&&(i.sle.isNone&&(!i.fnt&&i.fields.isEmpty)))))
    |.bool=>!i.agg&&(i.arr.isNone&&(i.ik.isNone&&(i.sle.isNone&&(!i.fnt&&i.fields.isEmpty))))
    |.slice e=>!i.agg&&(i.arr.isNone&&(i.ik.isNone&&(!i.isb&&((match i.sle with|some e'=>ZJ e e'|none=>ZC)&&(!i.fnt&&i.fields.isEmpty)))))
    |.func _ _ _=>!i.agg&&(i.arr.isNone&&(i.ik.isNone&&(!i.isb&&(i.sle.isNone&&i.fields.isEmpty))))
    |_=>!i.agg&&(i.arr.isNone&&(i.ik.isNone&&(!i.isb&&(i.sle.isNone&&(!i.fnt&&i.fields.isEmpty)))))))))
 |_,_=>ZC
def lL{P:Program}:∀{fs:List Field} {l:List (Nat×Nat)},kO P fs l=ZB->∀(f off ft:Nat),l[f]? =ZA (off,ft)->∃x,fs[f]? =ZA x/\x.offset=off/\x.type=ft/\∃i,P.info? ft=ZA i/\i.size≠0
 |[],[],_,f,off,ft,h=>by simp at h
 |x::fs,(off',ft')::l,hc,f,off,ft,h=>by
   simp only[kO,ne]at hc;cases f with
   |zero=>
     simp only[cy,bv,Prod.mk.injEq]at h;obtain⟨rfl,rfl⟩:=h;refine⟨x,rfl,Ak hc.1,Ak hc.2.1,?_⟩;have h3:=hc.2.2.1;split at h3
     next i hi=>refine⟨i,hi,fun e=> ?_⟩;rw[e]at h3;simp at h3
     .cases h3
   |succ f=>exact lL hc.2.2.2 f off ft Xx
def qD{P:Program}:∀{fs:List Field} {l:List (Nat×Nat)},kO P fs l=ZB->fs.map (fun f=>(f.offset,f.type))=l
 |[],[],_=>rfl
 |x::fs,(off',ft')::l,hc=>by simp only[kO,ne]at hc;rw[List.map_cons,qD hc.2.2.2,Ak hc.1,Ak hc.2.1]
def avL{a b c}(hd:P.underlying t=ZA (.func a b c))(f:Nat)(fa fb)(w:World):(Op.equal t (.func (.func f) fa fb) .nilFunc).run P w=.ok ZC w/\(Op.equal t .nilFunc .nilFunc).run P w=.ok ZB w:=by
 unfold Op.equal;have key:∀d x y,(Op.equalIn (d+1) t x y).run P w=_:=fun d x y=>by rw[Op.equalIn,ZI,run_underlying hd]
 exact⟨(key 9999 _ _).trans rfl,(key 9999 _ _).trans rfl⟩
def arj{i:TI}(h:Pq P t i=ZB)(DQ:i.eqok=ZB->∀vs us,aH vs i.zero->aH us i.zero->∀w,(Op.equal t (.agg vs.toArray) (.agg us.toArray)).run P w=.ok (Df vs us) w)(hgrd:i.eqok=ZB->P.eqGuardType P.depth t=ZC)(hkey:i.keyok=ZB->∀vs,aH vs i.zero->∀b w,(Instr.checkKey b 10000 t (.agg vs.toArray)).run P w=.ok () w):TIok P t i:=by
 unfold Pq at h;split at h
 .rename_i CL d C4 hd;simp only[ne]at h;obtain⟨⟨⟨NY,DP⟩,Jt⟩,h1,h2,hby,h3⟩:=h;have BT:=Ak h1;have RO:∀w,(typeInfo t).run P w=.ok CL w:=fun w=>by simp[typeInfo,program,ZI,Sem.run,C4]
  obtain⟨z,hz,Ex,LA⟩:∃z,CL.zero=ZA z/\xu i.zero z.cells.toList=ZB/\z.cells.toList.length=i.size:=by
   split at h2
   next z hz=>rw[ne]at h2;exact⟨z,hz,h2.1,Ak h2.2⟩
   .exact XU
  clear h1 h2;refine⟨?_,fun w=>by simp[sizeOf,ZI,RO,BT],⟨z,fun w=>by simp[zeroValue,ZI,RO,hz],fun U j=>qB U j Ex⟩,?_,?_,?_,?_,?_,⟨d,hd⟩,DQ,hgrd,?_,?_,?_,fun k e hk=> ?_,fun hk=> ?_,fun hk=> ?_,hkey,fun z' MH=> ?_,⟨CL,z,C4,BT,Ak hby,hz,LA,fun U j=>qB U j Ex⟩⟩
  .intro w;unfold isAgg;rw[ZI,run_underlying hd];cases d<;>simp_all
  .intro f off ft hf w a;cases d<;>simp_all;rename_i fs;obtain⟨x,hx,rfl,rfl,Qn,hi,BM⟩:=lL (P:=P) h3.2.2.2.2.2.2 f off ft hf;have F9:fs[f]? =ZA x:=by rw[<-lx];exact hx
   have hs:∀w,(sizeOf x.type).run P w=.ok Qn.size w:=fun w=>by simp[sizeOf,typeInfo,program,ZI,Sem.run,hi]
   simp[Instr.fieldAt,run_underlying hd,ZI,F9,Instr.sureAddr,fieldPlace,hs,BM]
  .intro f off ft hf w cs;cases d<;>simp_all;rename_i fs;obtain⟨x,hx,rfl,rfl,Qn,hi,BM⟩:=lL (P:=P) h3.2.2.2.2.2.2 f off ft hf;have F9:fs[f]? =ZA x:=by rw[<-lx];exact hx
   simp[Instr.field,run_underlying hd,ZI,F9,asAgg]
  .intro n e ha;cases d<;>simp_all
  .intro h1 h2;cases d<;>simp_all;exact qD (P:=P) h3.2.2.2.2
  .intro k hk;cases d<;>simp_all;rw[ar h3.2.2.1]
  .intro hb;cases d<;>simp_all
  .intro e he;cases d<;>simp_all
  .intro hb f fa fb w;cases d<;>simp_all;exact avL hd f fa fb w
  .rw[hk]at NY;dsimp only at NY;split at NY
   .simp only[ne]at NY;rw[hd,Ak NY.1,Ak NY.2]
   .cases NY
  .simp only[hk]at DP;cases d<;>first|exact⟨_,hd⟩|cases DP
  .simp only[hk]at DP;cases d<;>first|exact hd|cases DP
  .have e0:=MH ⟨#[],fun _ _=>0,0,default,#[]⟩;have e1:z'=z:=by
    simp[zeroValue,ZI,RO,hz]at e0;exact e0.symm
   subst e1;rw[hz]at Jt;cases z'<;>simp_all [Value.cells]
 .exact Xo
def ke:∀{z z':List C} {vs:List Value},fy z z'=ZB->aH vs z->aH vs z'
 |[],[],vs,_,h=>h
 |.int k a::l,.int k' b::r,vs,hk,h=>by simp only[fy,ne]at hk;obtain⟨x,us,rfl,h1,h2⟩:=ae h;exact⟨ar hk.1,h1,ke hk.2 h2⟩
 |.bool a::l,.bool b::r,vs,hk,h=>by simp only[fy]at hk;obtain⟨x,us,rfl,h2⟩:=dR h;exact ke (z:=l) (z':=r) hk h2
def cP:List Value->List Lit
 |.int k x::l=>.int k x::cP l
 |.bool b::l=>.bool b::cP l
 |_=>[]
def ui:∀{z:List C} {vs us:List Value},aH vs z->aH us z->(Df vs us=ZB↔cP vs=cP us)
 |[],vs,us,h,h'=>by rw[bM h,bM h'];simp[Df]
 |.int k e::r,vs,us,h,h'=>by obtain⟨x,l,rfl,_,h2⟩:=ae h;obtain⟨y,m,rfl,_,g2⟩:=ae h';simp[Df,cP,ui h2 g2]
 |.bool e::r,vs,us,h,h'=>by obtain⟨x,l,rfl,h2⟩:=dR h;obtain⟨y,m,rfl,g2⟩:=dR h';simp[Df,cP,ui h2 g2]
 |.yld _::_,vs,us,h,_|.wn _ _ _ _ _::_,vs,us,h,_|.aw _ _ _ _ _ _ _::_,vs,us,h,_|.str _::_,vs,us,h,_|.pe _ _ _ _ _ _::_,vs,us,h,_|.nmp::_,vs,us,h,_|.mp _::_,vs,us,h,_|.itp _ _::_,vs,us,h,_|.ptr _ _::_,vs,us,h,_|.fp _ _::_,vs,us,h,_|.fn _::_,vs,us,h,_|.np::_,vs,us,h,_|.undef::_,vs,us,h,_|.sl _::_,vs,us,h,_|.ep _ _ _ _::_,vs,us,h,_|.nsl::_,vs,us,h,_|.nf::_,vs,us,h,_|.clo _ _ _::_,vs,us,h,_=>by
   cases vs with
   |nil=>exact h.elim
   |cons v l=>cases v<;>exact h.elim
def iC(hk:P.keyTypeAt 6 t=ZB)(hf:∀vs,aH vs z->(Value.agg vs.toArray).formed P t=ZB)(D:Nat)(hl:∀vs,aH vs z->P.keyLits D t vs=ZA (cP vs))(vs us:List Value)(hv:aH vs z)(hu:aH us z)(w:World):
  (Op.equal t (.agg vs.toArray) (.agg us.toArray)).run P w=.ok (Df vs us) w:=by
 obtain⟨r,hr,hiff⟩:=run_equalIn_deep (P:=P) 9994 6 t hk w D D (.agg vs.toArray) (.agg us.toArray) _ _ (hf vs hv) (hf us hu) (by simpa[Value.cells]using hl vs hv) (by simpa[Value.cells]using hl us hu);unfold Op.equal Op.maxDepth;rw[show(10000:Nat)=9994+6 from rfl,hr];congr 1;rw[aj,hiff,ui hv hu]
structure Ini where
 vk:List VK
 rows:List RowOb
 fb:List (List C)
def Cy(v id:Nat):CK->C×List VK×List RowOb
 |.int k=>(.int k (.w v),[.int k],[])
 |.bool=>(.bool (.s v),[.bool],[])
 |.fn g=>(.fn g,[],[])
 |.p k z=>(.int k (.p z),[],[])
 |.sl ks ty=>(.sl id,[.list ks],[⟨ks,ty,.g v,ZC,CR ks⟩])
 |.nf=>(.nf,[],[])
 |.any=>(.undef,[],[])
 |.rl ks ty L=>(.sl id,[],[⟨ks,ty,M9 ks .ln L,ZC,CR ks⟩])
 |.el ks ty=>(.ep id ks.length (.p 0) 0,[.list ks],[⟨ks,ty,.g v,ZC,CR ks⟩])
def DG(v id:Nat):List CK->List C×List VK×List RowOb
 |[]=>([],[],[])
 |k::ks=>let x:=Cy v id k;let y:=DG (v+x.2.1.length) (id+x.2.2.length) ks;(x.1::y.1,x.2.1++y.2.1,x.2.2++y.2.2)
def Cq(v id D5:Nat):List Sh->List V×List VK×List RowOb×List (List C)
 |[]=>([],[],[],[])
 |.one k::ss=>let x:=Cy v id k;let y:=Cq (v+x.2.1.length) (id+x.2.2.length) D5 ss;(.one x.1::y.1,x.2.1++y.2.1,x.2.2++y.2.2.1,y.2.2.2)
 |.agg ks::ss=>let x:=DG v id ks;let y:=Cq (v+x.2.1.length) (id+x.2.2.length) D5 ss;(.agg x.1::y.1,x.2.1++y.2.1,x.2.2++y.2.2.1,y.2.2.2)
 |.ptr ks::ss=>let x:=DG v id ks;let y:=Cq (v+x.2.1.length) (id+x.2.2.length) (D5+1) ss;(.one (.fp D5 0)::y.1,x.2.1++y.2.1,x.2.2++y.2.2.1,x.1::y.2.2.2)
def J3:CK->Bool
 |.sl ks _=>decide (0<ks.length)
 |.el ks _=>decide (0<ks.length) &&!dc ks Do
 |.any=>ZC
 |_=>ZB
def atW:CK->Bool
 |.any=>ZB
 |k=>J3 k
def Vu:Sh->Bool
 |.ptr ks=>ks.all atW
 |s=>s.cks.all J3
def JL(ss:List Sh):Bool:=ss.all Vu
section
variable {P:Program}{sp:Spec}{U:Env}{w:World}
def uP{U:Env}:∀(a b:List VK) (v:Nat),varsD U v (a++b)=varsD U v a++varsD U (v+a.length) b
 |[],b,v=>rfl
 |k::a,b,v=>by simp only[List.cons_append,varsD,uP a b (v+1),YS];rw[show v+1+a.length=v+(a.length+1) by omega]
def nT{U:Env}:∀(a:List VK) (v:Nat),(varsD U v a).length=a.length
 |[],v=>rfl
 |k::a,v=>by simp[varsD,nT a (v+1)]
def abp:∀{a b:List VK} {x y:List Dt},okDs a x->okDs b y->okDs (a++b) (x++y)
 |[],b,[],y,_,h=>h
 |k::a,b,d::x,y,h,h'=>⟨h.1,abp h.2 h'⟩
 |[],b,_::_,y,h,_=>h.elim
 |k::a,b,[],y,h,_=>by cases k<;>exact h.elim
def abo:∀{a:List VK} {x:List Dt},okDs a x->x.length=a.length
 |[],[],_=>rfl
 |k::a,d::x,h=>by simp[abo h.2]
 |[],_::_,h=>h.elim
 |k::a,[],h=>by cases k<;>exact h.elim
def at6(b:Bool):AE b=0\/AE b=1:=by cases b<;>simp[AE]
structure ArgOk(w:World)(v id:Nat)(vk:List VK)(rows:List RowOb)(d:List Dt)(svs:List SV)(den:Env->J->Prop):Prop where
 len:svs.length=rows.length
 zz:∀s∈svs,∀p∈s.z,w.heap[p.1]? =ZA p.2/\Cg p.2=ZB
 ok:okDs vk d
 at':∀(U:Env) (j:J),varsD U v vk=d->(∀(i:Nat) s,svs[i]? =ZA s->j.s (id+i)=ZA s)->den U j/\∀(i:Nat) s q,svs[i]? =ZA s->rows[i]? =ZA q->q.own=ZC/\∀base,RowOk U base w s q
def Lo(w:World):List SV->List (Nat×Obj)
 |[]=>[]
 |x::l=>(match x.blk ZC with
   |some k=>(match w.heap[k]? with|some o=>[(k,o)]|none=>[])
   |none=>[])++Lo w l
def am6:∀{ins:List SV},(∀x∈ins,∀k,x.blk ZC=ZA k->∃o,w.heap[k]? =ZA o/\Cg o=ZB)->∀p∈Lo w ins,w.heap[p.1]? =ZA p.2/\Cg p.2=ZB
 |[],_,p,hp=>by cases hp
 |x::l,h,p,hp=>by
   simp only[Lo,List.mem_append]at hp;rcases hp with hp|hp
   .cases hb:x.blk ZC with
    |none=>rw[hb]at hp;cases hp
    |some k=>obtain⟨o,h1,h2⟩:=h x bR k hb;rw[hb]at hp;simp only[h1,dv]at hp;subst hp;exact⟨h1,h2⟩
   .exact am6 (fun y hy=>h y (cM _ hy)) p hp
def am7:∀{ins:List SV} {x:SV},x∈ins->∀p∈Lo w [x],p∈Lo w ins
 |y::l,x,h,p,hp=>by
   rcases YT.1 h with rfl|h
   .simp only[Lo,List.append_nil]at hp;simp only[Lo,List.mem_append];exact .inl hp
   .have:=am7 h p hp;simp only[Lo,List.mem_append];exact .inr this
def EvIn.ei{row:List Int}{x:SV}{z:List (Nat×Obj)}(h:EvIn w row x)(hz:∀p∈Lo w [x],p∈z):EiOk z row x:=by
 have blk:∀k,x.blk ZC=ZA k->∃o,(k,o)∈z/\w.heap[k]? =ZA o:=fun k hk=>by obtain⟨o,h1,h2⟩:=h.blk k hk;exact⟨o,hz _ (by simp[Lo,hk,h1]),h1⟩
 refine⟨h.n,h.most,h.rest,fun w' hw=>h.rd.kept (fun k hk=> ?_),fun k hk=> ?_⟩
 .obtain⟨o,h1,h2⟩:=blk k hk;rw[h2];exact hw _ h1
 .obtain⟨o,h1,_⟩:=blk k hk;exact⟨o,h1⟩
def zc{u:Value}(hk:J3 k=ZB)(h:xv w k xs u r)(v id:Nat):∃d svs,xs=d++r/\ArgOk w v id (Cy v id k).2.1 (Cy v id k).2.2 d svs (fun U j=>(Cy v id k).1.den U j=ZA u):=by
 cases k with
 |int k=>obtain⟨x,rfl,rfl,hx⟩:=h;refine⟨[.z x],[],rfl,rfl,fun s hs=>(by cases hs),⟨hx,trivial⟩,fun U j hd _=>⟨?_,fun i s q hs=>by simp at hs⟩⟩;simp only[Cy,varsD,varD,Be,Dt.z.injEq,and_true]at hd;simp[Cy,C.den,E.I,hd]
 |bool=>obtain⟨b,rfl,rfl⟩:=h;refine⟨[.z (AE b)],[],rfl,rfl,fun s hs=>(by cases hs),⟨at6 b,trivial⟩,fun U j hd _=>⟨?_,fun i s q hs=>by simp at hs⟩⟩;simp only[Cy,varsD,varD,Be,Dt.z.injEq,and_true]at hd;simp[Cy,C.den,E.B,nN hd]
 |fn g=>obtain⟨rfl,rfl⟩:=h;exact⟨[],[],rfl,rfl,fun s hs=>(by cases hs),trivial,fun U j _ _=>⟨rfl,fun i s q hs=>by simp at hs⟩⟩
 |p k z=>obtain⟨rfl,rfl⟩:=h;exact⟨[],[],rfl,rfl,fun s hs=>(by cases hs),trivial,fun U j _ _=>⟨rfl,fun i s q hs=>by simp at hs⟩⟩
 |nf=>obtain⟨rfl,rfl⟩:=h;exact⟨[],[],rfl,rfl,fun s hs=>(by cases hs),trivial,fun U j _ _=>⟨rfl,fun i s q hs=>by simp at hs⟩⟩
 |any=>cases hk
 |el ks ty=>
   obtain⟨row,p,rfl,rfl,AV,As,BB⟩:=h;have hL:RowsIn ks [row]:=⟨fun r hr=>(by rw[dv.1 hr];exact AV),by simp[maxLen]⟩
   simp only[J3,ne,aB,ZP]at hk;have DP:CR ks=.sl:=by
    rcases cC ks with⟨h1,_⟩|⟨_,h1⟩
    .rw[h1]at hk;exact absurd hk.2 ST
    .exact h1
   have Kv:p.add 0=p:=XV;refine⟨[.l [row]],[⟨ZA p,1,1,[]⟩],rfl,rfl,fun s' Bj=>Yu,⟨hL,trivial⟩,fun U j hd hs=>⟨?_,fun i s' q Bj hq=> ?_⟩⟩
   .have:=hs 0 _ rfl;simp only[ZS]at this;simp[Cy,C.den,this,SV.elem,E.I,Kv]
   .simp only[Cy,varsD,varD,Be,Dt.l.injEq,and_true]at hd;cases i with
    |succ i=>simp at Bj
    |zero=>
      simp only[Cy,cy,bv]at Bj hq;subst Bj hq;refine⟨rfl,fun base=>SlOk.row ⟨?_,?_,hk.1,fun k hb=> ?_,fun ho=>(by cases ho),?_⟩ DP⟩
      .simp only[E.R,hd];rfl
      .simp only[E.R,hd];exact hL
      .have hb:=aA hb;simp only[SV.v,Value.ownBlock,bv]at hb;subst hb;exact As
      .simp only[E.R,hd];refine⟨by rw[bP hL.row];rfl,ZK _,by simp[maxLen],fun h=>Xo,fun a ha i u hu=> ?_⟩;cases ha;exact BB i u hu
 |rl ks ty L=>
   obtain⟨rfl,Al,s,rfl,hn,By,As⟩:=h;refine⟨[],[{s with z:=[]}],rfl,rfl,fun s' Bj=>Yu,trivial,fun U j hd hs=>⟨?_,fun i s' q Bj hq=> ?_⟩⟩
   .have:=hs 0 _ rfl;simp only[ZS]at this;show(j.s id).map SV.v=_;rw[this];rfl
   .obtain⟨hR,AY,hp,DP⟩:=yH (U:=U) Al;unfold TRow at By;rw[DP]at By;cases i with
    |succ i=>simp at Bj
    |zero=>
      simp only[Cy,cy,bv]at Bj hq;subst Bj hq;refine⟨rfl,fun base=>SlOk.row ⟨?_,?_,hp,As,fun ho=>(by cases ho),?_⟩ DP⟩
      .simp only[hR];exact hn
      .simp only[hR];exact AY
      .simp only[hR];exact By
 |sl ks ty=>
   obtain⟨L,s,rfl,rfl,hn,By,AY,As⟩:=h;unfold TRow at By;rcases cC ks with⟨CH,DP⟩|⟨_,DP⟩
   .rw[DP]at By;obtain⟨ins,Ba,Gx,Is⟩:=By;have DT:∀x∈ins,∀k,x.blk ZC=ZA k->∃o,w.heap[k]? =ZA o/\Cg o=ZB:=fun x hx=>by
     obtain⟨i,hi⟩:=List.getElem?_of_mem hx;have As:i<L.length:=by rw[<-Ba];exact(cZ.1 hi).1
     exact(Is i L[i] x (AH As) hi).blk
    refine⟨[.l L],[{s with z:=Lo w ins}],rfl,rfl,fun s' Bj=>(by rw[dv.1 Bj];exact am6 DT),⟨AY,trivial⟩,fun U j hd hs=>⟨?_,fun i s' q Bj hq=> ?_⟩⟩
    .have:=hs 0 _ rfl;simp only[ZS]at this;show(j.s id).map SV.v=_;rw[this];rfl
    .simp only[Cy,varsD,varD,Be,Dt.l.injEq,and_true]at hd;cases i with
     |succ i=>simp at Bj
     |zero=>
       simp only[Cy,cy,bv]at Bj hq;subst Bj hq;refine⟨rfl,fun base=>EvOk.row ⟨CH,?_,?_,As,fun ho=>(by cases ho),ins,?_,fun ho=>(by cases ho),?_,fun i row x hr hx=> ?_⟩ DP⟩
       .simp only[E.R,hd];exact hn
       .simp only[E.R,hd];exact AY
       .simp only[E.R,hd];exact Ba
       .simp only[E.R,hd];exact Gx
       .simp only[E.R,hd]at hr;exact(Is i row x hr hx).ei (fun p hp=>(am7 (fD hx)) p hp)
   .rw[DP]at By;refine⟨[.l L],[{s with z:=[]}],rfl,rfl,fun s' Bj=>Yu,⟨AY,trivial⟩,fun U j hd hs=>⟨?_,fun i s' q Bj hq=> ?_⟩⟩
    .have:=hs 0 _ rfl;simp only[ZS]at this;show(j.s id).map SV.v=_;rw[this];rfl
    .simp only[Cy,varsD,varD,Be,Dt.l.injEq,and_true]at hd;cases i with
     |succ i=>simp at Bj
     |zero=>
       simp only[Cy,cy,bv]at Bj hq;subst Bj hq;refine⟨rfl,fun base=>SlOk.row ⟨?_,?_,Ah hk,As,fun ho=>(by cases ho),?_⟩ DP⟩
       .simp only[E.R,hd];exact hn
       .simp only[E.R,hd];exact AY
       .simp only[E.R,hd];exact By
def ArgOk.app{v id:Nat}{vk1 vk2:List VK}{Lf MO:List RowOb}{d1 d2:List Dt}{s1 s2:List SV}{SX QO:Env->J->Prop}(h1:ArgOk w v id vk1 Lf d1 s1 SX)(h2:ArgOk w (v+vk1.length) (id+Lf.length) vk2 MO d2 s2 QO):
  ArgOk w v id (vk1++vk2) (Lf++MO) (d1++d2) (s1++s2) (fun U j=>SX U j/\QO U j):=by
 refine⟨by simp[h1.len,h2.len],fun s hs=>(List.mem_append.1 hs).elim (h1.zz s) (h2.zz s),abp h1.ok h2.ok,fun U j hd hs=> ?_⟩;rw[uP]at hd;obtain⟨e1,e2⟩:=List.append_inj hd (by rw[nT,abo h1.ok]);obtain⟨a1,a2⟩:=h1.at' U j e1 (fun i s hi=>hs i s (by rw[A9 (cZ.1 hi).1];exact hi));obtain⟨b1,b2⟩:=h2.at' U j e2 (fun i s hi=>by
  have:=hs (s1.length+i) s (by rw[Bl Fn,Nat.add_sub_cancel_left];exact hi);rw[h1.len]at this;rwa [YW])
 refine⟨⟨a1,b1⟩,fun i s q hi hq=> ?_⟩;rcases bt i s1.length with As|DH
 .rw[A9 As]at hi;rw[A9 (by rw[<-h1.len];exact As)]at hq;exact a2 i s q hi hq
 .rw[Bl DH]at hi;rw[Bl (by rw[<-h1.len];exact DH),<-h1.len]at hq;exact b2 _ s q hi hq
def ahU:∀{ks:List CK} {xs r:List Dt} {us:List Value},ks.all J3=ZB->lk w ks xs us r->∀(v id:Nat),∃d svs,xs=d++r/\ArgOk w v id (DG v id ks).2.1 (DG v id ks).2.2 d svs (fun U j=>Af U j (DG v id ks).1=ZA us)
 |[],xs,r,us,_,h,v,id=>by obtain⟨rfl,rfl⟩:=h;exact⟨[],[],rfl,rfl,fun s hs=>(by cases hs),trivial,fun U j _ _=>⟨rfl,fun i s q hs=>by simp at hs⟩⟩
 |k::ks,xs,r,us,hk,h,v,id=>by simp only[ZY,ne]at hk;obtain⟨u,RQ,r',rfl,h1,h2⟩:=h;obtain⟨d1,s1,rfl,g1⟩:=zc hk.1 h1 v id;obtain⟨d2,s2,rfl,g2⟩:=ahU hk.2 h2 (v+(Cy v id k).2.1.length) (id+(Cy v id k).2.2.length);refine⟨d1++d2,s1++s2,by simp,?_⟩;obtain⟨q1,qz,q2,q3⟩:=g1.app g2;refine⟨q1,qz,q2,fun U j hd hs=> ?_⟩;obtain⟨⟨a1,a2⟩,a3⟩:=q3 U j hd hs;exact⟨by simp only[DG,Af,a1,a2],a3⟩
def W9(w:World)(U:Env)(j:J)(fb:List (List C))(D5:Nat)(J4:List Nat):Prop:=∀(b:Nat) cs,fb[b]? =ZA cs->∃k vs,J4[b]? =ZA k/\k<w.heap.size/\Af U j cs=ZA vs/\∀(o:Nat) u,vs[o]? =ZA u->jG cs o=ZB->w.cell? ⟨k,o,ZE⟩=ZA u
def yY:∀{ks:List CK} {xs r:List Dt} {us:List Value},ks.all atW=ZB->lk w ks xs us r->∀(v id:Nat),∃d svs RQ,xs=d++r/\ArgOk w v id (DG v id ks).2.1 (DG v id ks).2.2 d svs (fun U j=>Af U j (DG v id ks).1=ZA RQ)/\∀(o:Nat) u,RQ[o]? =ZA u->jG (DG v id ks).1 o=ZB->us[o]? =ZA u
 |[],xs,r,us,_,h,v,id=>by obtain⟨rfl,rfl⟩:=h;exact⟨[],[],[],rfl,⟨rfl,fun s hs=>(by cases hs),trivial,fun U j _ _=>⟨rfl,fun i s q hs=>by simp at hs⟩⟩,fun o u hu=>by simp at hu⟩
 |k::ks,xs,r,us,hk,h,v,id=>by
   simp only[ZY,ne]at hk;obtain⟨u,us1,r',rfl,h1,h2⟩:=h;by_cases hany:k=.any
   .subst hany;have e1:xs=r':=h1;subst e1;obtain⟨d2,s2,us2,rfl,g2,g3⟩:=yY hk.2 h2 v id;refine⟨d2,s2,Go.undef::us2,rfl,?_,fun o u' hu hs=> ?_⟩
    .obtain⟨q1,qz,q2,q3⟩:=g2;refine⟨q1,qz,q2,fun U j hd hs=> ?_⟩;obtain⟨a1,a2⟩:=q3 U j hd hs;exact⟨by simp only[DG,Cy,Af,C.den];simp only[List.length_nil,ZS];rw[a1],a2⟩
    .cases o with
     |zero=>cases hs
     |succ o=>simpa using g3 o u' X2 hs
   .have EW:J3 k=ZB:=by
     have:=hk.1;cases k<;>first|exact this|exact absurd rfl hany
    obtain⟨d1,s1,rfl,g1⟩:=zc EW h1 v id;obtain⟨d2,s2,us2,rfl,g2,g3⟩:=yY hk.2 h2 (v+(Cy v id k).2.1.length) (id+(Cy v id k).2.2.length);refine⟨d1++d2,s1++s2,u::us2,by simp,?_,fun o u' hu hs=> ?_⟩
    .obtain⟨q1,qz,q2,q3⟩:=g1.app g2;refine⟨q1,qz,q2,fun U j hd hs=> ?_⟩;obtain⟨⟨a1,a2⟩,a3⟩:=q3 U j hd hs;exact⟨by simp only[DG,Af,a1,a2],a3⟩
    .cases o with
     |zero=>simpa using hu
     |succ o=>simpa using g3 o u' X2 hs
def uq:∀{ss:List Sh} {xs:List Dt} {vals:List Value},JL ss=ZB->nq w ss xs vals->∀(v id D5:Nat),∃svs J4,J4.length=(Cq v id D5 ss).2.2.2.length/\(Cq v id D5 ss).1.length=vals.length/\ArgOk w v id (Cq v id D5 ss).2.1 (Cq v id D5 ss).2.2.1 xs svs (fun U j=>(∀(i:Nat) k,J4[i]? =ZA k->j.f (D5+i)=ZA k)->(∀(i:Nat) x,(Cq v id D5 ss).1[i]? =ZA x->∃u,vals[i]? =ZA u/\x.den U j=ZA u)/\W9 w U j (Cq v id D5 ss).2.2.2 D5 J4)
 |[],xs,vals,_,h,v,id,D5=>by obtain⟨rfl,rfl⟩:=h;exact⟨[],[],rfl,rfl,rfl,fun s hs=>(by cases hs),trivial,fun U j _ _=>⟨fun _=>⟨fun i x hx=>by simp[Cq]at hx,fun b cs hb=>by simp[Cq]at hb⟩,fun i s q hs=>by simp at hs⟩⟩
 |.one k::ss,xs,vals,hk,h,v,id,D5=>by
   simp only[JL,Vu,ZY,ne,Sh.cks,List.all_nil,Bool.and_true]at hk;obtain⟨u,us,r,rfl,h1,h2⟩:=h;obtain⟨d1,s1,rfl,g1⟩:=zc hk.1 h1 v id;obtain⟨s2,J4,hf,hl,g2⟩:=uq (ss:=ss) hk.2 h2 (v+(Cy v id k).2.1.length) (id+(Cy v id k).2.2.length) D5;obtain⟨q1,qz,q2,q3⟩:=g1.app g2;refine⟨s1++s2,J4,hf,by simp[Cq,hl],q1,qz,q2,fun U j hd hs=> ?_⟩;obtain⟨⟨a1,a2⟩,a3⟩:=q3 U j hd hs;refine⟨fun hj=> ?_,a3⟩;obtain⟨b1,b2⟩:=a2 hj;refine⟨fun i x hx=> ?_,b2⟩;cases i with
   |zero=>simp only[Cq,cy,bv]at hx;subst hx;exact⟨u,rfl,a1⟩
   |succ i=>exact b1 i x (by simpa[Cq]using hx)
 |.agg ks::ss,xs,vals,hk,h,v,id,D5=>by
   simp only[JL,Vu,ZY,ne,Sh.cks]at hk;obtain⟨ws,us,r,rfl,h1,h2⟩:=h;obtain⟨d1,s1,rfl,g1⟩:=ahU hk.1 h1 v id;obtain⟨s2,J4,hf,hl,g2⟩:=uq (ss:=ss) hk.2 h2 (v+(DG v id ks).2.1.length) (id+(DG v id ks).2.2.length) D5;obtain⟨q1,qz,q2,q3⟩:=g1.app g2;refine⟨s1++s2,J4,hf,by simp[Cq,hl],q1,qz,q2,fun U j hd hs=> ?_⟩;obtain⟨⟨a1,a2⟩,a3⟩:=q3 U j hd hs;refine⟨fun hj=> ?_,a3⟩;obtain⟨b1,b2⟩:=a2 hj;refine⟨fun i x hx=> ?_,b2⟩;cases i with
   |zero=>simp only[Cq,cy,bv]at hx;subst hx;exact⟨_,rfl,by simp[V.den,a1]⟩
   |succ i=>exact b1 i x (by simpa[Cq]using hx)
 |.ptr ks::ss,xs,vals,hk,h,v,id,D5=>by
   simp only[JL,Vu,ZY,ne]at hk;obtain⟨kk,ws,us,r,rfl,h1,As,BB,h2⟩:=h;obtain⟨d1,s1,RU,rfl,g1,gw⟩:=yY hk.1 h1 v id;obtain⟨s2,J4,hf,hl,g2⟩:=uq (ss:=ss) hk.2 h2 (v+(DG v id ks).2.1.length) (id+(DG v id ks).2.2.length) (D5+1);obtain⟨q1,qz,q2,q3⟩:=g1.app g2;refine⟨s1++s2,kk::J4,by simp[Cq,hf],by simp[Cq,hl],q1,qz,q2,fun U j hd hs=> ?_⟩;obtain⟨⟨a1,a2⟩,a3⟩:=q3 U j hd hs;refine⟨fun hj=> ?_,a3⟩;obtain⟨b1,b2⟩:=a2 (fun i k hi=>by
    have:=hj (i+1) k XS;rwa [show D5+(i+1)=D5+1+i by omega]at this)
   refine⟨fun i x hx=> ?_,fun b cs hb=> ?_⟩
   .cases i with
    |zero=>simp only[Cq,cy,bv]at hx;subst hx;have:=hj 0 kk rfl;rw[ZS]at this;exact⟨_,rfl,by simp[V.den,C.den,this]⟩
    |succ i=>exact b1 i x (by simpa[Cq]using hx)
   .cases b with
    |zero=>simp only[Cq,cy,bv]at hb;subst hb;exact⟨kk,RU,rfl,As,a1,fun o u hu hs=>BB o u (gw o u hu hs)⟩
    |succ b=>exact b2 b cs (by simpa[Cq]using hb)
def fK(w:World)(o:Obj):w.heap.size<(w.alloc o).heap.size:=by
 have h:=heap_alloc_new w o;rcases bt w.heap.size (w.alloc o).heap.size with h1|h1
 .exact h1
 .rw[Array.getElem?_eq_none h1]at h;cases h
def EvIn.mono(hx:Ext w w'){row:List Int}{x:SV}(h:EvIn w row x):EvIn w' row x:=by
 have lt:∀k,x.blk ZC=ZA k->k<w.heap.size:=fun k hk=>by obtain⟨o,h1,_⟩:=h.blk k hk;exact(hG.1 h1).1
 refine⟨h.n,h.most,h.rest,h.rd.kept (fun k hk=>hx.block k (lt k hk)),fun k hk=> ?_⟩;obtain⟨o,h1,h2⟩:=h.blk k hk;exact⟨o,by rw[hx.block k (lt k hk)];exact h1,h2⟩
def TRow.mono(hx:Ext w w'){ks:List CE}{s:SV}{L:LL}(h:TRow w ks s L)(hb:∀k,s.blk ZC=ZA k->k<w.heap.size):TRow w' ks s L:=by
 unfold TRow at h ⊢;split
 next hk=>rw[hk]at h;obtain⟨ins,h1,h2,h3⟩:=h;exact⟨ins,h1,h2.kept (fun k hk=>hx.block k (hb k hk)),fun i row x hr hi=>(h3 i row x hr hi).mono hx⟩
 .rename_i hk;rcases cC ks with⟨_,h1⟩|⟨_,h1⟩
  .exact absurd h1 hk
  .rw[h1]at h;exact h.kept (fun k hk=>hx.block k (hb k hk))
def nM(hx:Ext w w'){u:Value}(h:xv w k xs u r):xv w' k xs u r:=by
 cases k with
 |sl ks ty=>obtain⟨L,s,h1,h2,h3,h4,h5,h6⟩:=h;exact⟨L,s,h1,h2,h3,h4.mono hx h6,h5,fun k hk=>nc (h6 k hk) hx.size⟩
 |el ks ty=>obtain⟨row,p,h1,h2,h3,h4,h5⟩:=h;refine⟨row,p,h1,h2,h3,nc h4 hx.size,fun c u hu=> ?_⟩;rw[World.cell?_of_block (a:=p.add c) (hx.block _ (by unfold Addr.add;split<;>exact h4))];exact h5 c u hu
 |rl ks ty L=>obtain⟨h1,h2,s,h3,h4,h5,h6⟩:=h;exact⟨h1,h2,s,h3,h4,h5.mono hx h6,fun k hk=>nc (h6 k hk) hx.size⟩
 |_=>exact h
def lK{w':World}(hx:Ext w w'):∀{ks:List CK} {xs r:List Dt} {us:List Value},lk w ks xs us r->lk w' ks xs us r
 |[],_,_,_,h=>h
 |k::ks,xs,r,us,h=>by obtain⟨u,RQ,r',h1,h2,h3⟩:=h;exact⟨u,RQ,r',h1,nM hx h2,lK hx h3⟩
def Lens(xs:List Dt):Prop:=∀L,Dt.l L∈xs->L.length<=maxLen
def Lens.tail{d:Dt}(h:Lens (d::xs)):Lens xs:=fun L hL=>h L (cM _ hL)
def zk:CK->Bool
 |.sl ks _=>!dc ks Do
 |_=>ZB
def aca(hv:zk k=ZB)(h:L5 k xs r)(hl:Lens xs)(w:World):∃w' u,Ext w w'/\xv w' k xs u r/\Lens r:=by
 cases k with
 |int k=>obtain⟨x,rfl,hx⟩:=h;exact⟨w,_,.refl w,⟨x,rfl,rfl,hx⟩,hl.tail⟩
 |bool=>obtain⟨b,rfl⟩:=h;exact⟨w,_,.refl w,⟨b,rfl,rfl⟩,hl.tail⟩
 |fn g=>exact⟨w,_,.refl w,⟨h,rfl⟩,by rw[<-show xs=r from h];exact hl⟩
 |p k z=>exact⟨w,_,.refl w,⟨h,rfl⟩,by rw[<-show xs=r from h];exact hl⟩
 |nf=>exact⟨w,_,.refl w,⟨h,rfl⟩,by rw[<-show xs=r from h];exact hl⟩
 |any=>exact⟨w,Go.undef,.refl w,h,by rw[<-show xs=r from h];exact hl⟩
 |el ks ty=>obtain⟨row,rfl,AV⟩:=h;refine⟨w.alloc (.cells (flat ks [row]).toArray ty),.pointer (ZA ⟨w.heap.size,0,ZE⟩),(Ext.refl w).alloc _,⟨row,_,rfl,rfl,AV,fK w _,fun c u hu=> ?_⟩,hl.tail⟩;have:(⟨w.heap.size,0,ZE⟩:Addr).add c=⟨w.heap.size,c,ZE⟩:=XV;rw[this,kP (heap_alloc_new w _)];exact hu
 |rl ks ty L=>
   obtain⟨rfl,Al⟩:=h;obtain⟨_,hL,hp,DP⟩:=yH (U:=⟨fun _=>0,fun _=>ZC,fun _=>[]⟩) Al;have hT:∀w' s,RdRow w' ks.length s (flat ks L)->TRow w' ks s L:=fun w' s h=>by unfold TRow;rw[DP];exact h
   refine⟨w.alloc (.cells (flat ks L).toArray ty),(SV.mk (ZA ⟨w.heap.size,0,ZE⟩) L.length L.length []).v,(Ext.refl w).alloc _,⟨rfl,Al,⟨ZA ⟨w.heap.size,0,ZE⟩,L.length,L.length,[]⟩,rfl,rfl,hT _ _ ⟨bP hL.row,ZK _,hL.len,fun h=>Xo,fun a ha i u hu=> ?_⟩,fun k hk=> ?_⟩,hl⟩
   .cases ha;have:(⟨w.heap.size,0,ZE⟩:Addr).add i=⟨w.heap.size,i,ZE⟩:=XV;rw[this,kP (heap_alloc_new w _)];exact hu
   .have hk:=aA hk;simp only[SV.v,Value.ownBlock,bv]at hk;subst hk;exact fK w _
 |sl ks ty=>
   obtain⟨L,rfl,hL⟩:=h;have A0:L.length<=maxLen:=hl L bR;have hT:∀w' s,RdRow w' ks.length s (flat ks L)->TRow w' ks s L:=fun w' s h=>by
    unfold TRow;rcases cC ks with⟨h1,_⟩|⟨_,h1⟩
    .rw[h1]at hv;cases hv
    .rw[h1];exact h
   refine⟨w.alloc (.cells (flat ks L).toArray ty),(SV.mk (ZA ⟨w.heap.size,0,ZE⟩) L.length L.length []).v,(Ext.refl w).alloc _,⟨L,⟨ZA ⟨w.heap.size,0,ZE⟩,L.length,L.length,[]⟩,rfl,rfl,rfl,hT _ _ ⟨bP hL,ZK _,A0,fun h=>Xo,fun a ha i u hu=> ?_⟩,⟨hL,A0⟩,fun k hk=> ?_⟩,hl.tail⟩
   .cases ha;have:(⟨w.heap.size,0,ZE⟩:Addr).add i=⟨w.heap.size,i,ZE⟩:=XV;rw[this,kP (heap_alloc_new w _)];exact hu
   .have hk:=aA hk;simp only[SV.v,Value.ownBlock,bv]at hk;subst hk;exact fK w _
def qC:∀{ks:List CK} {xs r:List Dt},ks.all zk=ZB->PU ks xs r->Lens xs->∀(w:World),∃w' us,Ext w w'/\lk w' ks xs us r/\Lens r
 |[],xs,r,_,h,hl,w=>⟨w,[],.refl w,⟨h,rfl⟩,by rw[<-show xs=r from h];exact hl⟩
 |k::ks,xs,r,hv,h,hl,w=>by simp only[ZY,ne]at hv;obtain⟨r',h1,h2⟩:=h;obtain⟨w1,u,e1,g1,l1⟩:=aca hv.1 h1 hl w;obtain⟨w2,us,e2,g2,l2⟩:=qC hv.2 h2 l1 w1;exact⟨w2,u::us,e1.trans e2,⟨u,us,r',rfl,nM e2 g1,g2⟩,l2⟩
def om(ss:List Sh):Bool:=ss.all fun s=>s.cks.all zk
def kR:∀{ss:List Sh} {xs:List Dt},om ss=ZB->Si ss xs->Lens xs->∀(w:World),∃w' vals,Ext w w'/\nq w' ss xs vals
 |[],xs,_,h,_,w=>⟨w,[],.refl w,h,rfl⟩
 |.one k::ss,xs,hv,h,hl,w=>by simp only[om,ZY,ne,Sh.cks,List.all_nil,Bool.and_true]at hv;obtain⟨r,⟨r1,h1,h2⟩,h3⟩:=h;cases h2;obtain⟨w1,u,e1,g1,l1⟩:=aca hv.1 h1 hl w;obtain⟨w2,us,e2,g2⟩:=kR (ss:=ss) hv.2 h3 l1 w1;exact⟨w2,u::us,e1.trans e2,u,us,_,rfl,nM e2 g1,g2⟩
 |.agg ks::ss,xs,hv,h,hl,w=>by simp only[om,ZY,ne,Sh.cks,List.all_nil,Bool.and_true]at hv;obtain⟨r,h1,h3⟩:=h;obtain⟨w1,u,e1,g1,l1⟩:=qC hv.1 h1 hl w;obtain⟨w2,us,e2,g2⟩:=kR (ss:=ss) hv.2 h3 l1 w1;exact⟨w2,_,e1.trans e2,u,us,_,rfl,lK e2 g1,g2⟩
 |.ptr ks::ss,xs,hv,h,hl,w=>by simp only[om,ZY,ne,Sh.cks,List.all_nil,Bool.and_true]at hv;obtain⟨r,h1,h3⟩:=h;obtain⟨w1,u,e1,g1,l1⟩:=qC hv.1 h1 hl w;have e2:Ext w1 (w1.alloc (.cells u.toArray 0)):=(Ext.refl w1).alloc _;obtain⟨w3,us,e3,g3⟩:=kR (ss:=ss) hv.2 h3 l1 (w1.alloc (.cells u.toArray 0));have As:w1.heap.size<(w1.alloc (.cells u.toArray 0)).heap.size:=fK w1 _;refine⟨w3,_,e1.trans (e2.trans e3),w1.heap.size,u,us,_,rfl,lK (e2.trans e3) g1,nc As e3.size,fun o v ho=> ?_,g3⟩;rw[World.cell?_of_block (a:=⟨w1.heap.size,o,ZE⟩) (e3.block _ As),kP (heap_alloc_new w1 _)];exact ho
def sB:∀{ss:List Sh} {xs:List Dt},(ss.all fun s=>s.cks.all fun k=>!k.isSl)=ZB->Si ss xs->Lens xs
 |[],xs,_,h=>by cases h;intro L hL;cases hL
 |s::ss,xs,hk,h=>by
   simp only[ZY,ne]at hk;obtain⟨r,h1,h2⟩:=h;have ih:=sB hk.2 h2;have key:∀(ks:List CK) (xs r:List Dt),ks.all (fun k=>!k.isSl)=ZB->PU ks xs r->Lens r->Lens xs:=by
    intro ks
    induction ks with
    |nil=>intro xs r _ h hl;cases h;exact hl
    |cons k ks ihk=>
      intro xs r hk h hl;simp only[ZY,ne]at hk;obtain⟨r',h1,h2⟩:=h;have l2:=ihk r' r hk.2 h2 hl;cases k with
      |int k=>
        obtain⟨x,rfl,_⟩:=h1;intro L hL;rcases YT.1 hL with e|hL
        .cases e
        .exact l2 L hL
      |bool=>
        obtain⟨x,rfl⟩:=h1;intro L hL;rcases YT.1 hL with e|hL
        .cases e
        .exact l2 L hL
      |sl ks ty=>simp[CK.isSl]at hk
      |rl ks ty L=>rw[h1.1];exact l2
      |el ks ty=>
        obtain⟨row,rfl,_⟩:=h1;intro L hL;rcases YT.1 hL with e|hL
        .cases e;simp[maxLen]
        .exact l2 L hL
      |_=>rw[show xs=r' from h1];exact l2
   exact key _ xs r hk.1 h1 ih
def wt{ds:List Dt}{v0:Nat}:∀(ks:List CK) (n:Nat),gE ks (ds.drop n)->eqs U ds v0 n ks->(∀(m:Nat) k,ks[m]? =ZA (.int k)->Ae k (U.i (v0+(n+m)))=ZB)/\∀(m:Nat) k ty,ks[m]? =ZA (.sl k ty)->RowsIn k (U.l (v0+(n+m)))
 |[],n,_,_=>⟨fun m k h=>by simp at h,fun m k ty h=>by simp at h⟩
 |k::ks,n,h,he=>by
   cases hd:ds.drop n with
   |nil=>rw[hd]at h;cases k<;>exact h.elim
   |cons d r=>
     rw[hd]at h;obtain⟨d1,d2⟩:=ff hd;have Mi:gE ks r/\eqs U ds v0 (n+1) ks/\(∀k',k=.int k'->Ae k' (U.i (v0+n))=ZB)/\∀k' ty,k=.sl k' ty->RowsIn k' (U.l (v0+n)):=by
      cases k with
      |int k=>
        cases d with
        |z x=>exact⟨h.2,he.2,fun k' e=>(by cases e;rw[he.1,Tp d1];exact h.1),fun k' ty e=>(by cases e)⟩
        |l L=>exact h.elim
      |sl ks0 ty=>
        cases d with
        |z x=>exact h.elim
        |l L=>exact⟨h.2,he.2,fun k' e=>(by cases e),fun k' ty e=>(by cases e;rw[he.1,Vs d1];exact h.1)⟩
      |bool=>exact⟨h,he.2,fun k' e=>(by cases e),fun k' ty e=>(by cases e)⟩
      |_=>exact⟨h,he,fun k' e=>(by cases e),fun k' ty e=>(by cases e)⟩
     obtain⟨m1,m2,m3,m4⟩:=Mi;obtain⟨i1,i2⟩:=wt ks (n+1) (by rw[d2];exact m1) m2;refine⟨fun m k' hm=> ?_,fun m k' ty hm=> ?_⟩
     .cases m with
      |zero=>simp only[cy,bv]at hm;exact m3 k' hm
      |succ m=>have:=i1 m k' XT;rwa [show n+(m+1)=n+1+m by omega]
     .cases m with
      |zero=>simp only[cy,bv]at hm;exact m4 k' ty hm
      |succ m=>have:=i2 m k' ty XT;rwa [show n+(m+1)=n+1+m by omega]
def TR(args res:List Sh)(pre:List Dt->Prop):Prop:=(args.all fun a=>a.cks.all fun k=>!k.isSl)=ZB\/((∀xs,pre xs->Lens xs)/\om args=ZB)\/(res.all fun a=>a.cks.all fun k=>match k with|.int _=>ZC|.sl _ _=>ZC|_=>ZB)=ZB
def ail(h:(ss.all fun a=>a.cks.all fun k=>!k.isSl)=ZB):om ss=ZB:=by unfold om;rw[Ct]at h ⊢;intro s hs;have:=h s hs;rw[Ct]at this ⊢;intro k hk;have:=this k hk;cases k<;>first|rfl|(simp[CK.isSl]at this)
def SmOk.of_calls{s:Sm}(hl:TR s.args s.res (sp.pre s.key))
  (h:∀xs vals w,nq w s.args xs vals->sp.pre s.key xs->sp.hw w->
   (∃v w',(callFunc s.f vals.toArray).run P w=.ok (.value v) w'/\RetOk s.res s.tup w w' (sp.F s.key xs) v)\/((callFunc s.f vals.toArray).run P w=.ok (.enter s.f vals.toArray) w/\Calls P s.f vals.toArray w fun e w'=>∃v,e=.returned v/\RetOk s.res s.tup w w' (sp.F s.key xs) v)) (hn:s.inp=ZE:=by rfl):SmOk P sp s:=by
 refine⟨fun _=>h,fun ks ty e=>(by rw[hn]at e;cases e),fun xs De CM U v0 he=> ?_⟩;have A0:(Lens xs/\om s.args=ZB)\/((∀(n:Nat) k,s.ks[n]? =ZA (.int k)->Ae k (U.i (v0+n))=ZB)/\(∀(n:Nat) ks ty,s.ks[n]? =ZA (.sl ks ty)->RowsIn ks (U.l (v0+n)))):=by
  rcases hl with hl|hl|hl
  .exact .inl ⟨sB hl De,ail hl⟩
  .exact .inl ⟨hl.1 xs CM,hl.2⟩
  .right;have key:∀k∈s.ks,(match k with|.int _=>ZC|.sl _ _=>ZC|_=>ZB)=ZB:=fun k hk=>by
    obtain⟨a,ha,hk⟩:=List.mem_flatMap.1 hk;exact Ct.1 (Ct.1 hl a ha) k hk
   exact⟨fun n k hk=>(by have:=key _ (fD hk);cases this),fun n ks ty hk=>(by have:=key _ (fD hk);cases this)⟩
 rcases A0 with⟨A0,Av⟩|Qv
 rotate_left
 .exact Qv
 obtain⟨wi,hwi⟩:=sp.hi;obtain⟨w,vals,hxi,hw⟩:=kR Av De A0 wi;have hres:gE (s.res.flatMap (·.cks)) (sp.F s.key xs):=by
  rcases h xs vals w hw CM (sp.hx _ _ hxi hwi)with⟨v,w',_,hr⟩|⟨_,hc⟩
  .exact hr.rng
  .obtain⟨e,w',_,⟨v,_,hr⟩,_⟩:=hc [];exact hr.rng
 have Ic:eqs U (sp.F s.key xs) v0 0 (s.res.flatMap (·.cks)):=he;have:=wt (U:=U) (ds:=sp.F s.key xs) (v0:=v0) (s.res.flatMap (·.cks)) 0 (by simpa using hres) Ic;simpa[Sm.ks]using this
def aO:List VK->(List Dt->Prop)->Prop
 |[],p=>p []
 |.int k::l,p=>∀x,Ae k x=ZB->aO l fun r=>p (.z x::r)
 |.bool::l,p=>∀b:Bool,aO l fun r=>p (.z (AE b)::r)
 |.list ks::l,p=>∀L,RowsIn ks L->aO l fun r=>p (.l L::r)
def iB:∀{l:List VK} {p:List Dt->Prop},aO l p->∀xs,okDs l xs->p xs
 |[],p,h,[],_=>h
 |.int k::l,p,h,.z x::r,ho=>iB (h x ho.1) r ho.2
 |.bool::l,p,h,.z x::r,ho=>by
   rcases ho.1 with rfl|rfl
   .exact iB (h ZC) r ho.2
   .exact iB (h ZB) r ho.2
 |.list ks::l,p,h,.l L::r,ho=>iB (h L ho.1) r ho.2
 |[],p,h,_::_,ho=>ho.elim
 |.int _::_,p,h,[],ho=>ho.elim
 |.bool::_,p,h,[],ho=>ho.elim
 |.list _::_,p,h,[],ho=>ho.elim
 |.int _::_,p,h,.l _::_,ho=>ho.1.elim
 |.bool::_,p,h,.l _::_,ho=>ho.1.elim
 |.list _::_,p,h,.z _::_,ho=>ho.1.elim
def Sa:List Sm->Bool
 |[]=>ZB
 |s::l=>(l.all fun x=>!ZJ x.key s.key)&&Sa l
def ahy:∀{l:List Sm},Sa l=ZB->∀s∈l,∀s'∈l,s.key=s'.key->s=s'
 |[],_,s,hs,_,_,_=>by cases hs
 |x::l,h,s,hs,s',Bj,he=>by
   simp only[Sa,ne,Ct,ZP]at h;rcases YT.1 hs with rfl|hs<;>rcases YT.1 Bj with rfl|Bj
   .rfl
   .have:=h.1 s' (by assumption);rw[he]at this;simp at this
   .have:=h.1 s (by assumption);rw[he]at this;simp at this
   .exact ahy h.2 s (by assumption) s' (by assumption) he
def yZ(ss:List Sh):List V×List VK×List RowOb×List (List C):=Cq 0 0 0 ss
def auQ(hints:List (Nat×List Pl)):Option E:=match am 999996 hints with
 |some [.gone l,.gone n,.gone c,.gone z]=>ZA (.eq (.get (.g l) (.w n) c) (.p z))
 |_=>ZE
def aeN(hints:List (Nat×List Pl))(k:Kw->Tr)(kw:Kw):Tr:=match auQ hints with
 |some e=>AL e (fun b kw=>if b then k kw else .stuck 261) kw
 |none=>k kw
def aeM{U:Env}{G:Env->E->Prop}{I:Nat->List Dt->Prop}{k:Kw->Tr}{kw:Kw}(h:(aeN hints k kw).holds sp G U I)(hg:Good sp sm U kw):∃An,(k An).holds sp G U I/\Good sp sm U An/\An.vk=kw.vk:=by
 unfold aeN at h;split at h
 .obtain⟨An,h1,h2,h3,_⟩:=aS _ _ _ h hg;split at h1
  .exact⟨An,h1,h2,h3⟩
  .exact h1.elim
 .exact⟨kw,h,hg,rfl⟩
def al0(ty:List (Nat×TI))(sm:List Sm)(fns:List (Nat×Func×List (Nat×List Pl)×List (Nat×List Pl)))(hints cuts:List (Nat×List Pl))(fuel:Nat)(fn:Func)(args res:List Sh):Tr:=aeN hints (Pk ⟨ty,sm,res,(yZ args).2.2.2,hints,cuts,fns⟩ fuel fn (yZ args).1 ((yZ args).2.2.1.map .row)) ⟨if(am 999997 hints).isSome then[(.tt ZB,ZB)]else[],[],(yZ args).2.1,0⟩
def cb(ty:List (Nat×TI))(sm:List Sm)(fns:List (Nat×Func×List (Nat×List Pl)×List (Nat×List Pl)))(hints cuts:List (Nat×List Pl))(fuel:Nat)(fn:Func)(args res:List Sh)(tup:Bool)(vks:List VK)(t:Tr):Prop:=
 (al0 ty sm fns hints cuts fuel fn args res,(yZ args).2.1,t.sc vks.length&&(JL args&&((ZJ res.length 1 == !tup)&&(Sa sm&&(!(fn.name== "runtime.NumGoroutine") &&!fn.body.isNone)))))=(t,vks,ZB)
def E0{ty:List (Nat×TI)}{args:List Sh}{t:Tr}
  (h:(al0 ty sm fns hints cuts fuel fn args res,(yZ args).2.1,t.sc vks.length&&(JL args&&((ZJ res.length 1 == !tup)&&(Sa sm&&(!(fn.name== "runtime.NumGoroutine") &&!fn.body.isNone)))))=(t,vks,ZB)):cb ty sm fns hints cuts fuel fn args res tup vks t:=h
abbrev Cn(t:Tr)(sp:Spec)(vks:List VK)(xs:List Dt)(F:List Dt->List Dt):Prop:=∀U,varsD U 0 vks=xs->t.asks sp (fun U e=>e.D U=F xs) U fun _ _=>False
def E2:∀p∈([]:List (Nat×Func×List (Nat×List Pl)×List (Nat×List Pl))),P.funcs[p.1]? =ZA p.2.1:=fun _ h=>by cases h
def GB{x:List (Nat×List Pl)×List (Nat×List Pl)}{l:List (Nat×Func×List (Nat×List Pl)×List (Nat×List Pl))}(h:P.funcs[g]? =ZA fn)(h':∀p∈l,P.funcs[p.1]? =ZA p.2.1):∀p∈(g,fn,x)::l,P.funcs[p.1]? =ZA p.2.1:=List.forall_mem_cons.2 ⟨h,h'⟩
def xd{Py:Spec}{f:Nat}{args:List Sh}{ty:List (Nat×TI)}{t:Tr}{F:List Dt->List Dt}{pre:List Dt->Prop}(hm:P.follows .mixedOrders=ZB)(hT:∀t i,(t,i)∈ty->TIok P t i)(hS:∀s∈sm,SmOk P Py s)(hf:P.funcs[f]? =ZA fn)
  (Bx:∀p∈fns,P.funcs[p.1]? =ZA p.2.1) (ht:cb ty sm fns hints cuts fuel fn args res tup vks t)
  (h:aO vks fun xs=>pre xs->∀U,varsD U 0 vks=xs->t.asks Py (fun U e=>e.D U=F xs) U fun _ _=>False) (xs:List Dt) (vals:List Value) (w:World) (hw:nq w args xs vals) (CM:pre xs) (NF:Py.hw w):
  (callFunc f vals.toArray).run P w=.ok (.enter f vals.toArray) w/\Calls P f vals.toArray w fun e w'=>∃v,e=.returned v/\RetOk res tup w w' (F xs) v:=by
 simp only[cb,Prod.mk.injEq]at ht;obtain⟨ht1,hv1,PJ⟩:=ht;simp only[ne,cL,ZP]at PJ;obtain⟨hsc,Al,htup,AR,HY,HT⟩:=PJ;refine⟨dD hf HY HT _ w,?_⟩;obtain⟨svs,J4,FZ,P7,Hm⟩:=uq Al hw 0 0 0;have IH:(Cq 0 0 0 args).2.1=vks:=hv1;rw[IH]at Hm;let U0:Env:=Env.put ⟨fun _=>0,fun _=>ZC,fun _=>[]⟩ 0 xs;have Qo:∀U',Ag vks.length U0 U'->varsD U' 0 vks=xs:=fun U' ha=>mt Hm.ok (by rw[bJ];exact ha);obtain⟨U',h1,h2⟩:=adc (G:=fun U e=>e.D U=F xs) t vks.length U0 (fun _ _=>False) hsc (fun U' ha=>iB h xs Hm.ok CM U' (Qo U' ha));let j:J:=⟨fun _=>ZE,fun id=>svs[id]?,fun b=>J4[b]?,⟨fun _=>ZE,UT w⟩⟩
 obtain⟨a1,a2⟩:=Hm.at' U' j (Qo U' h1) (fun i s hi=>by rw[bJ];exact hi);obtain⟨a3,a4⟩:=a1 (fun i k hi=>by rw[bJ];exact hi);rw[<-ht1]at h2;have QM:Vk U' vks:=by
  have hd:=Qo U' h1;have ho:=Hm.ok;have key:∀(l:List VK) (n:Nat),okDs l (varsD U' n l)->(∀(i:Nat) k,l[i]? =ZA (.int k)->Ae k (U'.i (n+i))=ZB)/\∀(i:Nat) ks,l[i]? =ZA (.list ks)->RowsIn ks (U'.l (n+i)):=by
   intro l
   induction l with
   |nil=>intro n _;exact⟨fun i k h=>by simp at h,fun i k h=>by simp at h⟩
   |cons x l ih=>
     intro n h;obtain⟨i1,i2⟩:=ih (n+1) h.2;refine⟨fun i k hk=> ?_,fun i ks hk=> ?_⟩
     .cases i with
      |zero=>simp at hk;subst hk;exact h.1
      |succ i=>have:=i1 i k (by simpa using hk);rwa [show n+(i+1)=n+1+i by omega]
     .cases i with
      |zero=>simp at hk;subst hk;exact h.1
      |succ i=>have:=i2 i ks (by simpa using hk);rwa [show n+(i+1)=n+1+i by omega]
  obtain⟨k1,k2⟩:=key _ 0 (by rw[hd];exact ho);exact⟨fun i k hk=>by have:=k1 i k hk;rwa [bJ]at this,fun i k hk=>by have:=k2 i k hk;rwa [bJ]at this⟩
 obtain⟨An,h2,CQ,_⟩:=aeM h2 ⟨fun p hp=>(by
   split at hp
   .rw[dv.1 hp];rfl
   .cases hp),by rw[hv1];exact QM,fun p hp=>Yn⟩
 refine aqO (hF:=Bx) (U:=U') (j:=j) (kw:=An) (cx:=⟨ty,sm,res,(yZ args).2.2.2,hints,cuts,fns⟩) hm hT hS (ahy AR) hf a3 P7.symm htup h2 CQ w ⟨fun b ob hb=> ?_,fun b hb=> ?_,fun b=>rfl,rfl,fun b s hs=> ?_,fun b cs hb=> ?_⟩ NF
 .rw[jn,Ay]at hb;obtain⟨q,hq,rfl⟩:=hb;have As:b<svs.length:=by rw[Hm.len];exact(cZ.1 hq).1
  obtain⟨g1,g2⟩:=a2 b svs[b] q (AH As) hq;exact⟨q,svs[b],rfl,g1,AH As,g2 _⟩
 .rw[List.length_map]at hb;exact cf (by rw[Hm.len];exact hb)
 .exact Hm.zz s (fD hs)
 .exact a4 b cs hb
def TC:∀s∈([]:List Sm),SmOk P sp s:=fun _ h=>by cases h
def EK{s:Sm}{l:List Sm}(h:SmOk P sp s)(h':∀s∈l,SmOk P sp s):∀x∈s::l,SmOk P sp x:=List.forall_mem_cons.2 ⟨h,h'⟩
def Ut{Py:Spec}{s:Sm}{ty:List (Nat×TI)}{t:Tr}{F:List Dt->List Dt}{pre:List Dt->Prop}(hF:sp.F s.key=F)(hP:sp.pre s.key=pre)(hm:P.follows .mixedOrders=ZB)(hT:∀t i,(t,i)∈ty->TIok P t i)(hS:∀s∈sm,SmOk P Py s)(hf:P.funcs[s.f]? =ZA fn)(Bx:∀p∈fns,P.funcs[p.1]? =ZA p.2.1)(ht:cb ty sm fns hints cuts fuel fn s.args s.res s.tup vks t)(hl:TR s.args s.res pre)(h:aO vks fun xs=>pre xs->∀U,varsD U 0 vks=xs->t.asks Py (fun U e=>e.D U=F xs) U fun _ _=>False)(hn:s.inp=ZE:=by rfl)(hW:∀w,sp.hw w->Py.hw w:=by exact fun _ _=>trivial):SmOk P sp s:=
 SmOk.of_calls (by rw[hP];exact hl) (fun xs vals w hw CM NF=>.inr (by rw[hF];rw[hP]at CM;exact xd hm hT hS hf Bx ht h xs vals w hw CM (hW w NF))) hn
def SmOk.pureW{s:Sm}{F:List Dt->List Dt}(hF:sp.F s.key=F)(hl:(s.args.all fun a=>a.cks.all fun k=>!k.isSl)=ZB)(hr:((s.res.flatMap (·.cks)).filter CK.isSl)=[])(h:∀xs vals w,nq w s.args xs vals->sp.hw w->∃X,((callFunc s.f vals.toArray).run P w=.ok (.value X) w\/((callFunc s.f vals.toArray).run P w=.ok (.enter s.f vals.toArray) w/\Calls P s.f vals.toArray w fun e w'=>e=.returned X/\Ext w w'))/\gE (s.res.flatMap (·.cks)) (F xs)/\∀(U:Env) v0 nid j,eqs U (F xs) v0 0 (s.res.flatMap (·.cks))->(fY s.res s.tup v0 nid).den U j=ZA X)(hn:s.inp=ZE:=by rfl):SmOk P sp s:=by
 refine SmOk.of_calls (.inl hl) (fun xs vals w hw _ hh=> ?_) hn;obtain⟨X,h1,h2,h3⟩:=h xs vals w hw hh;rw[hF];have ret:∀w',Ext w w'->RetOk s.res s.tup w w' (F xs) X:=fun w' hx=>⟨hx,h2,[],by rw[hr];rfl,fun U v0 nid j he _=>h3 U v0 nid j he,fun U v0 _ i u r hu=>by simp at hu,fun i i' u u' k hu=>(by simp at hu),fun u hu=>(by cases hu)⟩
 rcases h1 with h1|⟨h1,hc⟩
 .exact .inl ⟨X,w,h1,ret w (.refl w)⟩
 .exact .inr ⟨h1,hc.mono fun e w' he=>⟨X,he.1,ret w' he.2⟩⟩
def SmOk.pure{s:Sm}{F:List Dt->List Dt}(hF:sp.F s.key=F)(hl:(s.args.all fun a=>a.cks.all fun k=>!k.isSl)=ZB)(hr:((s.res.flatMap (·.cks)).filter CK.isSl)=[])(h:∀xs vals w,nq w s.args xs vals->∃X,((callFunc s.f vals.toArray).run P w=.ok (.value X) w\/((callFunc s.f vals.toArray).run P w=.ok (.enter s.f vals.toArray) w/\Calls P s.f vals.toArray w fun e w'=>e=.returned X/\Ext w w'))/\gE (s.res.flatMap (·.cks)) (F xs)/\∀(U:Env) v0 nid j,eqs U (F xs) v0 0 (s.res.flatMap (·.cks))->(fY s.res s.tup v0 nid).den U j=ZA X)(hn:s.inp=ZE:=by rfl):SmOk P sp s:=
 SmOk.pureW hF hl hr (fun xs vals w hw _=>h xs vals w hw) hn
def fg:Value->Bool
 |.int k z=>Ae k z
 |_=>ZB
def fc:Value->Bool
 |.agg cs=>cs.toList.all fg
 |v=>fg v
def fP:Value->Bool
 |.tuple vs=>vs.toList.all fc
 |v=>fc v
def RetOk.says(h:RetOk [.one .bool] ZC w w' [.z 1] v):v=.bool ZB:=by obtain⟨svs,_,h1,_⟩:=h.svs;have:=h1 ⟨fun _=>0,fun _=>ZB,fun _=>[]⟩ 0 0 ⟨fun _=>ZE,fun id=>svs[id]?,fun _=>ZE,Gh.zero⟩ ⟨rfl,trivial⟩ (fun i u hi=>by rw[bJ];exact hi);cases this;rfl
@[simp] theorem b2i_eq_iff {a b:Bool}:(AE a=AE b)=(a=b):=propext ⟨nN,fun h=>by rw[h]⟩
@[simp] theorem b2i_one {a:Bool}:(AE a==1)=a:=ov a
def zb{a:Bool}(h:a=b):[Dt.z (AE a)]=[Dt.z (AE b)]:=by rw[h]
def zi{a b:Int}(h:a=b):[Dt.z a]=[Dt.z b]:=by rw[h]
def E.vs(n:Nat):Nat->E->E
 |0,t=>t
 |k+1,t=>.cons (.w n) (E.vs (n+1) k t)
def S1:=aI (@List.getElem?_cons_zero Dt) (aI (@List.getElem?_cons_succ Dt) (aI (@List.cons_append Dt) (aI (@List.nil_append Dt) (aI (@List.cons_append CK) (aI (@List.nil_append CK) (aI bJ (aI ZS (aI and_true (aI true_and @b2i_one)))))))))
def kdN:Nat->Option IntKind
 |0=>ZA .i8
 |1=>ZA .u64
 |2=>ZA .i64
 |3=>ZA .u8
 |4=>ZA .i32
 |5=>ZA .u32
 |_=>ZE
def kN:Nat->Nat->List CE
 |0,_=>[]
 |n+1,m=>kdN (m % 10)::kN n (m / 10)
def zN:Nat->Nat->List C
 |0,_=>[]
 |n+1,m=>(match kdN (m % 10)with
   |some k=>.int k (.p 0)
   |none=>.bool (.tt ZC))::zN n (m / 10)
def E.zs:List Int->E->E
 |[],t=>t
 |z::l,t=>.cons (.p z) (E.zs l t)
def E.zr:Nat->E->E
 |0,t=>t
 |n+1,t=>.cons (.p 0) (E.zr n t)
def E.rgs(d x:E):Nat->Nat->E->E->E->E
 |_,_,_,.nil,t=>t
 |n+1,r,.nil,o,t=>E.rgs d x n (r+1) x o t
 |n+1,r,.cons y ys,.cons o os,t=>.cons (.ite (.eq d (.p r)) y o) (E.rgs d x n r ys os t)
 |_,_,_,_,t=>t
def E.rg(d x o t:E):E:=E.rgs d x 120 0 x o t
def E.pv(n:Nat):List Int->E->E
 |[],t=>t
 |z::l,t=>.and (.eq (.w n) (.p z)) (E.pv (n-1) l t)
def E.gs(l i:E)(c:Nat):Nat->E->E
 |0,t=>t
 |k+1,t=>.cons (.get l i c) (E.gs l i (c+1) k t)
def E.ins(l i t:E):E:=E.gs l i 0 4 (.j (.getb l i 4) (E.gs l i 5 4 t))
def E.sv(a:Nat):Nat->E
 |0=>.nil
 |k+1=>.cons (.w a) (E.sv (a+9) k)
def E.tn(i:E)(a:Nat):Nat->E->E
 |0,t=>t
 |k+1,t=>.cons (.nth i (E.sv a 11)) (E.tn i (a+1) k t)
def E.sg(l i:E)(c:Nat):Nat->E
 |0=>.nil
 |k+1=>.cons (.get l i c) (E.sg l i (c+9) k)
def E.tg(e l i:E)(c:Nat):Nat->E->E
 |0,t=>t
 |k+1,t=>.cons (.nth e (E.sg l i c 11)) (E.tg e l i (c+1) k t)
def E.iv(c:E)(a b:Nat):Nat->E->E
 |0,t=>t
 |k+1,t=>.cons (.ite c (.w a) (.w b)) (E.iv c (a+1) (b+1) k t)
def EqT(P:Program)(t:Nat)(z:List C):Prop:=(∀vs us,aH vs z->aH us z->∀w,(Op.equal t (.agg vs.toArray) (.agg us.toArray)).run P w=.ok (Df vs us) w)/\P.eqGuardType P.depth t=ZC
def KyT(P:Program)(t:Nat)(z:List C):Prop:=∀vs,aH vs z->∀b w,(Instr.checkKey b 10000 t (.agg vs.toArray)).run P w=.ok () w
def B1{f:Nat->List C->Prop}:∀q∈([]:List (Nat×List C)),f q.1 q.2:=fun _ h=>by cases h
def DX{f:Nat->List C->Prop}{l:List (Nat×List C)}(h:f t z)(h':∀q∈l,f q.1 q.2):∀q∈(t,z)::l,f q.1 q.2:=List.forall_mem_cons.2 ⟨h,h'⟩
def aiZ{f:Nat->List C->Prop}{es:List (Nat×List C)}(he:∀q∈es,f q.1 q.2)(h:(!b||es.any fun q=>ZJ t q.1&&fy z q.2)=ZB)(hb:b=ZB):∃z',fy z z'=ZB/\f t z':=by rw[hb,Bool.not_true,Bool.false_or,List.any_eq_true]at h;obtain⟨q,hq,h⟩:=h;rw[ne]at h;obtain rfl:=Ak h.1;exact⟨q.2,h.2,he q hq⟩
def bi{l:List (Nat×TI)}{es ky:List (Nat×List C)}(he:∀q∈es,EqT P q.1 q.2)(hk:∀q∈ky,KyT P q.1 q.2)(h:(l.all fun p=>Pq P p.1 p.2&&((!p.2.eqok||es.any fun q=>ZJ p.1 q.1&&fy p.2.zero q.2)&&(!p.2.keyok||ky.any fun q=>ZJ p.1 q.1&&fy p.2.zero q.2)))=ZB):∀t i,(t,i)∈l->TIok P t i:=fun t i hm=>by
 have h1:=Ct.1 h (t,i) hm;rw[ne,ne]at h1;refine arj h1.1 (fun hb=> ?_) (fun hb=> ?_) (fun hb=> ?_)
 .obtain⟨z,hz,hE⟩:=aiZ he h1.2.1 hb;exact fun vs us hv hu=>hE.1 vs us (ke hz hv) (ke hz hu)
 .obtain⟨z,hz,hE⟩:=aiZ he h1.2.1 hb;exact hE.2
 .obtain⟨z,hz,hE⟩:=aiZ hk h1.2.2 hb;exact fun vs hv=>hE vs (ke hz hv)
def T0:List Dt->Prop:=fun _=>True
structure Cd where
 f:Nat
 a:List Sh
 r:List Sh
 F:List Dt->List Dt
 p:List Dt->Prop
def tp:List Sh->Bool
 |[_]=>ZC
 |_=>ZB
def Cd.m(c:Cd)(key:Nat):Sm:=⟨c.f,key,c.a,c.r,tp c.r⟩
def Cd.Ok(c:Cd)(P:Program):Prop:=∀{sp:Spec} {key:Nat},sp.F key=c.F->sp.pre key=c.p->SmOk P sp (c.m key)
def Ke:List Cd->Nat->Cd
 |[],_=>⟨0,[],[],fun _=>[],fun _=>True⟩
 |c::_,0=>c
 |_::l,n+1=>Ke l n
def Sp(l:List Cd):Spec:={F:=fun k=>(Ke l k).F,pre:=fun k=>(Ke l k).p}
def FJ:Nat->List Cd->List Sm
 |_,[]=>[]
 |n,c::l=>c.m n::FJ (n+1) l
def P8(P:Program)(l:List Cd):Prop:=∀(i:Nat) c,l[i]? =ZA c->c.Ok P
def AI:P8 P []:=fun i c h=>by simp at h
def Am{c:Cd}{l:List Cd}(h:c.Ok P)(h':P8 P l):P8 P (c::l):=fun i d hd=>by
 cases i with
 |zero=>simp at hd;subst hd;exact h
 |succ i=>exact h' i d (by simpa using hd)
def al7:∀{l:List Cd} {i:Nat} {c:Cd},l[i]? =ZA c->Ke l i=c
 |[],_,_,h=>by simp at h
 |_::_,0,_,h=>by simpa[Ke]using h
 |_::l,i+1,_,h=>by rw[Ke];exact al7 Xx
def al9{L:List Cd}:∀{l:List Cd} {n:Nat},(∀(i:Nat) c,l[i]? =ZA c->L[n+i]? =ZA c)->P8 P l->∀s∈FJ n l,SmOk P (Sp L) s
 |[],_,_,_,_,h=>by cases h
 |c::l,n,hL,h,s,hs=>by
   rcases YT.1 hs with rfl|hs
   .have e:Ke L n=c:=al7 (hL 0 c rfl);exact h 0 c rfl (congrArg Cd.F e) (congrArg Cd.p e)
   .exact al9 (fun i c hc=>by rw[YW,Nat.add_comm 1];exact hL (i+1) c Yq) (fun i c hc=>h (i+1) c Yq) s hs
def Ki:(∀x,T0 x=True)/\(∀(l:List Cd) k,(Sp l).F k=(Ke l k).F)/\(∀(l:List Cd) k,(Sp l).pre k=(Ke l k).p)/\(∀c l,Ke (c::l) 0=c)/\∀c l n,Ke (c::l) (n+1)=Ke l n:=⟨fun _=>rfl,fun _ _=>rfl,fun _ _=>rfl,fun _ _=>rfl,fun _ _ _=>rfl⟩
def GE{c:Cd}{l:List Cd}{ty:List (Nat×TI)}(t:Tr)(vks:List VK)(hT:∀t i,(t,i)∈ty->TIok P t i)(hS:P8 P l)(hf:P.funcs[c.f]? =ZA fn)(Bx:∀p∈fns,P.funcs[p.1]? =ZA p.2.1)(ht:cb ty (FJ 0 l) fns hints cuts fuel fn c.a c.r (tp c.r) vks t)(h:aO vks fun xs=>c.p xs->∀U,varsD U 0 vks=xs->t.asks (Sp l) (fun U e=>e.D U=c.F xs) U fun _ _=>False)(hl:TR c.a c.r c.p:=by exact .inl rfl)(hm:P.follows .mixedOrders=ZB:=by kernel_rfl)(hn:(c.m 0).inp=ZE:=by rfl):c.Ok P:=
 fun hF hP=>Ut (s:=c.m _) hF hP hm hT (al9 (fun i c hc=>by rw[bJ];exact hc) hS) hf Bx ht hl h hn
def AT{c:Cd}{l:List Cd}{ty:List (Nat×TI)}(t:Tr)(vks:List VK)(hT:∀t i,(t,i)∈ty->TIok P t i)(hS:P8 P l)(hf:P.funcs[c.f]? =ZA fn)(h:aO vks fun xs=>c.p xs->∀U,varsD U 0 vks=xs->t.asks (Sp l) (fun U e=>e.D U=c.F xs) U fun _ _=>False)(ht:cb ty (FJ 0 l) [] [] [] 200 fn c.a c.r (tp c.r) vks t:=by exact E0 (by kernel_rfl))(hl:TR c.a c.r c.p:=by exact .inl rfl)(hm:P.follows .mixedOrders=ZB:=by kernel_rfl)(hn:(c.m 0).inp=ZE:=by rfl):c.Ok P:=
 GE t vks hT hS hf E2 ht h hl hm hn
def rdZ(k:Int->List Dt->List Dt):List Dt->List Dt
 |.z x::r=>k x r
 |_=>[]
def rdB(k:Bool->List Dt->List Dt):List Dt->List Dt
 |.z x::r=>k (x==1) r
 |_=>[]
def rdL(k:LL->List Dt->List Dt):List Dt->List Dt
 |.l x::r=>k x r
 |_=>[]
end
def Mv:=aI @Dt.z.injEq (aI @Dt.l.injEq @b2i_eq_iff)
def AB:=aI @varsD.eq_1 (aI @varsD.eq_2 (aI @varD.eq_1 (aI @varD.eq_2 (aI @varD.eq_3 (aI (@List.cons.injEq Dt) (aI @and_true (aI @Dt.z.injEq (aI @Dt.l.injEq @b2i_eq_iff))))))))
def CB:TI:=⟨ZC,1,[.int .i64 (.p 0)],[],ZE,ZA .i64,ZC,ZC,ZE,8,ZC,ZE,ZC,0⟩
def eX:TI:=⟨ZC,1,[.int .u64 (.p 0)],[],ZE,ZA .u64,ZC,ZC,ZE,8,ZC,ZE,ZC,0⟩
def gZ:TI:=⟨ZB,4,(zN 4 2211),[(0,39),(1,39),(2,2),(3,2)],ZE,ZE,ZC,ZC,ZE,32,ZC,ZE,ZC,0⟩
def aeD:TI:=⟨ZB,2,[.int .u64 (.p 0),.int .u64 (.p 0)],[(0,39),(1,39)],ZE,ZE,ZC,ZC,ZE,16,ZC,ZE,ZC,0⟩
def aeC:TI:=⟨ZB,2,[.int .i64 (.p 0),.int .i64 (.p 0)],[(0,2),(1,2)],ZE,ZE,ZC,ZC,ZE,16,ZC,ZE,ZC,0⟩
def CU:TI:=⟨ZC,1,[.int .i64 (.p 0)],[],ZE,ZA .i64,ZC,ZC,ZE,8,ZC,ZE,ZC,0⟩
def EH:TI:=⟨ZC,1,[.bool (.tt ZC)],[],ZE,ZE,ZC,ZB,ZE,1,ZC,ZE,ZC,0⟩
def fT:TI:=⟨ZC,1,[.int .i8 (.p 0)],[],ZE,ZA .i8,ZC,ZC,ZE,1,ZC,ZE,ZC,0⟩
def Vf:TI:=⟨ZC,1,[.int .u64 (.p 0)],[],ZE,ZA .u64,ZC,ZC,ZE,8,ZC,ZE,ZC,0⟩
def jl:TI:=⟨ZB,2,[.int .u64 (.p 0),.int .u64 (.p 0)],[(0,39),(1,39)],ZE,ZE,ZC,ZC,ZE,16,ZC,ZE,ZC,0⟩
def Qg:TI:=⟨ZB,6,(zN 6 112211),[(0,46),(4,48)],ZE,ZE,ZC,ZC,ZE,48,ZC,ZE,ZC,0⟩
def qP:TI:=⟨ZB,9,(zN 9 220090000),[(0,38),(1,38),(2,38),(3,38),(4,4),(5,38),(6,38),(7,3),(8,3)],ZE,ZE,ZB,ZC,ZE,24,ZC,ZE,ZC,0⟩
def Tf:TI:=⟨ZC,1,[.int .i64 (.p 0)],[],ZE,ZA .i64,ZC,ZC,ZE,8,ZC,ZE,ZC,0⟩
def eM:TI:=⟨ZB,6,(zN 6 112211),[(0,46),(4,48)],ZE,ZE,ZB,ZC,ZE,48,ZC,ZE,ZC,0⟩
def qS:TI:=⟨ZB,9,(zN 9 221122110),[(0,38),(1,50),(7,3),(8,3)],ZE,ZE,ZB,ZC,ZE,72,ZC,ZE,ZC,0⟩
def qR:TI:=⟨ZB,99,(zN 99 221122110221122110221122110221122110221122110221122110221122110221122110221122110221122110221122110),[],ZA (11,52),ZE,ZC,ZC,ZE,792,ZC,ZE,ZC,0⟩
def qQ:TI:=⟨ZB,72,(zN 72 221122110221122110221122110221122110221122110221122110221122110221122110),[],ZA (8,52),ZE,ZC,ZC,ZE,576,ZC,ZE,ZC,0⟩
def uZ:TI:=⟨ZB,171,(zN 171 221122110221122110221122110221122110221122110221122110221122110221122110221122110221122110221122110221122110221122110221122110221122110221122110221122110221122110221122110),[(0,53),(99,54)],ZE,ZE,ZC,ZC,ZE,1368,ZC,ZE,ZC,0⟩
def VP:TI:=⟨ZC,1,[.nsl],[],ZE,ZE,ZC,ZC,ZA 4,24,ZC,ZE,ZC,0⟩
def Ue:TI:=⟨ZC,1,[.nsl],[],ZE,ZE,ZC,ZC,ZA 56,24,ZC,ZE,ZC,0⟩
def VT:TI:=⟨ZB,2,[.nsl,.nsl],[(0,29),(1,30)],ZE,ZE,ZC,ZC,ZE,48,ZC,ZE,ZC,0⟩
def vd:TI:=⟨ZC,1,[.nsl],[],ZE,ZE,ZC,ZC,ZA 66,24,ZC,ZE,ZC,0⟩
def vb:TI:=⟨ZB,2,[.int .i64 (.p 0),.nsl],[(0,3),(1,22)],ZE,ZE,ZC,ZC,ZE,32,ZC,ZE,ZC,0⟩
def Vy:TI:=⟨ZC,1,[.nsl],[],ZE,ZE,ZC,ZC,ZA 3,24,ZC,ZE,ZC,0⟩
def al3:TI:=⟨ZC,1,[.int .u32 (.p 0)],[],ZE,ZA .u32,ZC,ZC,ZE,4,ZC,ZE,ZC,0⟩
def KW:TI:=⟨ZC,1,[.int .u8 (.p 0)],[],ZE,ZA .u8,ZC,ZC,ZE,1,ZC,ZE,ZC,0⟩
def zZ:TI:=⟨ZB,9,(zN 9 221122110),[(0,38),(1,50),(7,3),(8,3)],ZE,ZE,ZC,ZC,ZE,72,ZC,ZE,ZC,0⟩
def Su:TI:=⟨ZB,11,(zN 11 11111111111),[],ZA (11,39),ZE,ZC,ZC,ZE,88,ZC,ZE,ZC,0⟩
def QA:TI:=⟨ZB,64,(zN 64 3333333333333333333333333333333333333333333333333333333333333333),[],ZA (64,5),ZE,ZC,ZC,ZE,64,ZC,ZE,ZC,0⟩
def SJ:TI:=⟨ZB,76,(zN 76 3333333333333333333333333333333333333333333333333333333333333333211111111111),[(0,60),(11,3),(12,61)],ZE,ZE,ZC,ZC,ZE,160,ZC,ZE,ZC,0⟩
def zY:TI:=⟨ZB,171,(zN 171 221122110221122110221122110221122110221122110221122110221122110221122110221122110221122110221122110221122110221122110221122110221122110221122110221122110221122110221122110),[(0,53),(99,54)],ZE,ZE,ZB,ZC,ZE,1368,ZC,ZE,ZC,0⟩
def aoJ:TI:=⟨ZC,1,[.nsl],[],ZE,ZE,ZC,ZC,ZA 5,24,ZC,ZE,ZC,0⟩
def aoI:TI:=⟨ZC,1,[.nsl],[],ZE,ZE,ZC,ZC,ZA 39,24,ZC,ZE,ZC,0⟩
def Xl:TI:=⟨ZC,1,[.nsl],[],ZE,ZE,ZC,ZC,ZA 178,24,ZC,ZE,ZC,0⟩
def arH:TI:=⟨ZC,1,[.np],[],ZE,ZE,ZC,ZC,ZE,8,ZC,ZE,ZC,1⟩
def arG:TI:=⟨ZB,82,[.int .i64 (.p 0),.nsl,.np,.int .u64 (.p 0),.int .u64 (.p 0),.int .u64 (.p 0),.int .u64 (.p 0),.int .u64 (.p 0),.int .u64 (.p 0),.int .u64 (.p 0),.int .u64 (.p 0),.int .u64 (.p 0),.int .u64 (.p 0),.int .u64 (.p 0),.int .i64 (.p 0),.int .u8 (.p 0),.int .u8 (.p 0),.int .u8 (.p 0),.int .u8 (.p 0),.int .u8 (.p 0),.int .u8 (.p 0),.int .u8 (.p 0),.int .u8 (.p 0),.int .u8 (.p 0),.int .u8 (.p 0),.int .u8 (.p 0),.int .u8 (.p 0),.int .u8 (.p 0),.int .u8 (.p 0),.int .u8 (.p 0),.int .u8 (.p 0),.int .u8 (.p 0),.int .u8 (.p 0),.int .u8 (.p 0),.int .u8 (.p 0),.int .u8 (.p 0),.int .u8 (.p 0),.int .u8 (.p 0),.int .u8 (.p 0),.int .u8 (.p 0),.int .u8 (.p 0),.int .u8 (.p 0),.int .u8 (.p 0),.int .u8 (.p 0),.int .u8 (.p 0),.int .u8 (.p 0),.int .u8 (.p 0),.int .u8 (.p 0),.int .u8 (.p 0),.int .u8 (.p 0),.int .u8 (.p 0),.int .u8 (.p 0),.int .u8 (.p 0),.int .u8 (.p 0),.int .u8 (.p 0),.int .u8 (.p 0),.int .u8 (.p 0),.int .u8 (.p 0),.int .u8 (.p 0),.int .u8 (.p 0),.int .u8 (.p 0),.int .u8 (.p 0),.int .u8 (.p 0),.int .u8 (.p 0),.int .u8 (.p 0),.int .u8 (.p 0),.int .u8 (.p 0),.int .u8 (.p 0),.int .u8 (.p 0),.int .u8 (.p 0),.int .u8 (.p 0),.int .u8 (.p 0),.int .u8 (.p 0),.int .u8 (.p 0),.int .u8 (.p 0),.int .u8 (.p 0),.int .u8 (.p 0),.int .u8 (.p 0),.int .u8 (.p 0),.int .i64 (.p 0),.nsl,.nsl],[(0,24),(2,87),(3,63),(79,3),(80,26),(81,40)],ZE,ZE,ZC,ZC,ZE,256,ZC,ZE,ZC,0⟩
def al4:TI:=⟨ZB,4,[.nsl,.nsl,.nsl,.nsl],[(0,25),(1,25),(2,25),(3,25)],ZE,ZE,ZC,ZC,ZE,96,ZC,ZE,ZC,0⟩
def aeE:TI:=⟨ZB,3,[.int .i64 (.p 0),.nsl,.int .u64 (.p 0)],[(0,3),(1,26),(2,39)],ZE,ZE,ZC,ZC,ZE,40,ZC,ZE,ZC,0⟩
def arJ:TI:=⟨ZC,1,[.nsl],[],ZE,ZE,ZC,ZC,ZA 63,24,ZC,ZE,ZC,0⟩
def arI:TI:=⟨ZB,5,[.int .i8 (.p 0),.int .u64 (.p 0),.nsl,.nsl,.int .i64 (.p 0)],[(0,38),(1,39),(2,25),(3,40),(4,3)],ZE,ZE,ZC,ZC,ZE,72,ZC,ZE,ZC,0⟩
def zlF:Tr:=.u (.j (.tt ZC) .nil)
def zlT:Tr:=.u (.j (.tt ZB) .nil)
def Ai:=aI @Tr.asks.eq_1 (aI @Tr.asks.eq_2 (aI @Tr.asks.eq_3 (aI @Tr.asks.eq_4 (aI @Tr.asks.eq_5 (aI @Tr.asks.eq_6 (aI @Tr.asks.eq_7 (aI @Tr.asks.eq_8 (aI @Tr.asks.eq_9 (aI @Tr.asks.eq_10 (aI @Tr.asks.eq_11 (aI @okDs.eq_1 (aI @okDs.eq_2 (aI @okDs.eq_3 (aI @okD.eq_1 (aI @okD.eq_2 (aI @okD.eq_3 (aI @okD.eq_4 (aI @eqs.eq_1 (aI @eqs.eq_2 (aI @eqs.eq_3 (aI @eqs.eq_4 (aI @eqs.eq_5 (aI @E.I.eq_1 (aI @E.I.eq_2 (aI @E.I.eq_3 (aI @E.I.eq_4 (aI @E.I.eq_5 (aI @E.I.eq_6 (aI @E.I.eq_7 (aI @E.I.eq_8 (aI @E.I.eq_9 (aI @E.I.eq_10 (aI @E.I.eq_11 (aI @E.I.eq_12 (aI @E.B.eq_1 (aI @E.B.eq_2 (aI @E.B.eq_3 (aI @E.B.eq_4 (aI @E.B.eq_5 (aI @E.B.eq_6 (aI @E.B.eq_7 (aI @E.B.eq_8 (aI @E.B.eq_9 (aI @E.B.eq_10 (aI @E.L.eq_1 (aI @E.L.eq_2 (aI @E.L.eq_3 (aI @E.R.eq_1 (aI @E.R.eq_2 (aI @E.R.eq_3 (aI @E.R.eq_4 (aI @E.R.eq_5 (aI @E.R.eq_6 (aI @E.R.eq_7 (aI @E.R.eq_8 (aI @E.R.eq_9 (aI @E.R.eq_10 (aI @E.D.eq_1 (aI @E.D.eq_2 (aI @E.D.eq_3 (aI @E.D.eq_4 (aI @E.vs.eq_1 (aI @E.vs.eq_2 (aI @E.gs.eq_1 (aI @E.gs.eq_2 (aI @E.ins.eq_1 (aI @E.sv.eq_1 (aI @E.sv.eq_2 (aI @E.tn.eq_1 (aI @E.tn.eq_2 (aI @E.iv.eq_1 (aI @E.iv.eq_2 (aI @E.zs.eq_1 (aI @E.zs.eq_2 (aI @E.zr.eq_1 (aI @E.zr.eq_2 (aI @E.sg.eq_1 (aI @E.sg.eq_2 (aI @E.tg.eq_1 (aI @E.tg.eq_2 (aI @E.rg.eq_1 (aI @E.rgs.eq_1 (aI @E.rgs.eq_2 (aI @E.rgs.eq_3 (aI @E.rgs.eq_4 (aI @E.pv.eq_1 (aI @E.pv.eq_2 (aI @dI.eq_1 (aI @dB.eq_1 (aI @dL.eq_1 (aI @varD.eq_1 (aI @varD.eq_2 (aI @varD.eq_3 (aI @varsD.eq_1 (aI @varsD.eq_2 (aI zlF.eq_1 (aI zlT.eq_1 (aI Ki (aI S1 (aI @oz (aI @rdZ.eq_1 (aI @rdB.eq_1 (@rdL.eq_1)))))))))))))))))))))))))))))))))))))))))))))))))))))))))))))))))))))))))))))))))))))))))))))))))))))))
def tpr:Nat->Nat->List Pl
 |_,0=>[]
 |a,n+1=>.top a::tpr (a+1) n
def E1:List (Nat×Nat)->List Pl
 |[]=>[]
 |x::l=>tpr x.1 x.2++E1 l
abbrev EE:=kN 171 221122110221122110221122110221122110221122110221122110221122110221122110221122110221122110221122110221122110221122110221122110221122110221122110221122110221122110221122110
abbrev NB:=kN 172 2211221102211221102211221102211221102211221102211221102211221102211221102211221102211221102211221102211221102211221102211221102211221102211221102211221102211221102211221109
abbrev LN:=kN 76 3333333333333333333333333333333333333333333333333333333333333333211111111111
end Go.Proofs.YtgolejfhoefeaaaGreatDoor
