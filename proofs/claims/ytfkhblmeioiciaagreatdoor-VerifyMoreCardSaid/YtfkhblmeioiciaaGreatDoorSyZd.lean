import Derived.Test.YtfkhblmeioiciaaGreatDoorSyZc
import Derived.LoopN
import Derived.Lib.LazyBuf
set_option maxRecDepth 100000
set_option maxHeartbeats 8000000
set_option linter.defProp false
set_option linter.unusedVariables false
set_option linter.unusedSimpArgs false
namespace Go.Proofs.YtfkhblmeioiciaaGreatDoor
open Go.RowKit
def E.sc (n:Nat):E->Bool
 | .lit _ | .nil | .tt _ | .ln=>true
 | .var i | .bw i | .lw i=>Nat.blt i n
 | .bin _ _ a b | .nth a b | .leq a b | .mix a b | .mn a b | .mx a b | .cons a b | .cb a b | .cL a b | .lt a b | .eq a b | .and a b | .beq a b | .lq a b | .lcat a b | .lrep a b | .ltake a b | .ldrop a b=>a.sc n&&b.sc n
 | .get a i _ | .getb a i _=>a.sc n&&i.sc n
 | .lset a i _ x | .lsetb a i _ x | .lput a i x | .ite a i x=>a.sc n&&(i.sc n&&x.sc n)
 | .conv _ a | .not a | .len a=>a.sc n
theorem E.sc_eq {n:Nat} {U U':Env} (h:Ag n U U'):∀e:E,e.sc n=true->e.I U=e.I U'/\e.B U=e.B U'/\e.L U=e.L U'/\e.R U=e.R U'/\e.D U=e.D U':=by
 intro e
 induction e<;>intro hs<;>simp only[E.sc,thm0] at hs
 case var i=>exact⟨(h i (by simpa[Nat.blt_eq] using hs)).1,rfl,rfl,rfl,rfl⟩
 case bw i=>exact⟨rfl,(h i (by simpa[Nat.blt_eq] using hs)).2.1,rfl,rfl,rfl⟩
 case lw i=>exact⟨rfl,rfl,rfl,(h i (by simpa[Nat.blt_eq] using hs)).2.2,rfl⟩
 case lit=>exact⟨rfl,rfl,rfl,rfl,rfl⟩
 case nil=>exact⟨rfl,rfl,rfl,rfl,rfl⟩
 case ln=>exact⟨rfl,rfl,rfl,rfl,rfl⟩
 case tt=>exact⟨rfl,rfl,rfl,rfl,rfl⟩
 case conv ih=>simp[E.I,E.B,E.L,E.R,E.D,ih hs]
 case not ih=>simp[E.I,E.B,E.L,E.R,E.D,ih hs]
 case len ih=>simp[E.I,E.B,E.L,E.R,E.D,ih hs]
 case lset ih1 ih2 ih3=>simp[E.I,E.B,E.L,E.R,E.D,ih1 hs.1,ih2 hs.2.1,ih3 hs.2.2]
 case ite ih1 ih2 ih3=>simp[E.I,E.B,E.L,E.R,E.D,ih1 hs.1,ih2 hs.2.1,ih3 hs.2.2]
 case lput ih1 ih2 ih3=>simp[E.I,E.B,E.L,E.R,E.D,ih1 hs.1,ih2 hs.2.1,ih3 hs.2.2]
 case lsetb ih1 ih2 ih3=>simp[E.I,E.B,E.L,E.R,E.D,ih1 hs.1,ih2 hs.2.1,ih3 hs.2.2]
 all_goals
  rename_i ih1 ih2
  simp[E.I,E.B,E.L,E.R,E.D,ih1 hs.1,ih2 hs.2]
def argE:List VK->List E->E
 | .int _::ks,e::es=>.cons e (argE ks es)
 | .bool::ks,e::es=>.cb e (argE ks es)
 | .list _::ks,e::es=>.cL e (argE ks es)
 | _,_=>.nil
structure Giv (v0:Nat) (vks:List VK) (θ:List E) (U U':Env):Prop where
 ag:Ag v0 U U'
 i:∀m k t,vks[m]? =some (.int k)->θ[m]? =some t->U'.i (v0+m)=t.I U
 b:∀m t,vks[m]? =some .bool->θ[m]? =some t->U'.b (v0+m)=t.B U
 l:∀m ks t,vks[m]? =some (.list ks)->θ[m]? =some t->U'.l (v0+m)=t.R U
theorem oU {a b:Bool} (h:b2i a=b2i b):a=b:=by cases a<;>cases b<;>first | rfl | cases h
theorem aau {U U':Env}:∀(vks:List VK) (θ:List E) (n:Nat),θ.length=vks.length->varsD U' n vks=(argE vks θ).D U->∀m t,θ[m]? =some t->(∀k,vks[m]? =some (.int k)->U'.i (n+m)=t.I U)/\(vks[m]? =some .bool->U'.b (n+m)=t.B U)/\(∀ks,vks[m]? =some (.list ks)->U'.l (n+m)=t.R U)
 | [],θ,n,hl,h,m,t,ht=>⟨fun k hk=>by simp at hk,fun hk=>by simp at hk,fun k hk=>by simp at hk⟩
 | vk::vks,[],n,hl,h,m,t,ht=>by cases hl
 | vk::vks,e::θ,n,hl,h,m,t,ht=>by
   have hl':θ.length=vks.length:=by simpa using hl
   have step:∀d,varD U' n vk=d->(argE (vk::vks) (e::θ)).D U=d::(argE vks θ).D U->varsD U' (n+1) vks=(argE vks θ).D U:=by
    intro d _ h2
    have h3:varD U' n vk::varsD U' (n+1) vks=(argE (vk::vks) (e::θ)).D U:=h
    rw[h2] at h3
    exact(List.cons.inj h3).2
   cases m with
   | zero=>
     simp only[bK,bh,Nat.add_zero] at ht ⊢
     subst ht
     have h0:varD U' n vk::varsD U' (n+1) vks=(argE (vk::vks) (e::θ)).D U:=h
     refine⟨fun k hk=> ?_,fun hk=> ?_,fun ks hk=> ?_⟩
     ·subst hk
      simp only[argE,E.D,varD,thm5,Dt.z.injEq] at h0
      exact h0.1
     ·subst hk
      simp only[argE,E.D,varD,thm5,Dt.z.injEq] at h0
      exact oU h0.1
     ·subst hk
      simp only[argE,E.D,varD,thm5,Dt.l.injEq] at h0
      exact h0.1
   | succ m=>
     have h1:varsD U' (n+1) vks=(argE vks θ).D U:=by
      have h0:varD U' n vk::varsD U' (n+1) vks=(argE (vk::vks) (e::θ)).D U:=h
      cases vk<;>simp only[argE,E.D,thm5] at h0<;>exact h0.2
     have:=aau vks θ (n+1) hl' h1 m t (by simpa using ht)
     simpa[Nat.add_assoc,Nat.add_comm 1 m] using this
theorem aqV {U U':Env} {v0:Nat} {vks:List VK} {θ:List E} (hag:Ag v0 U U') (hl:θ.length=vks.length) (h:varsD U' v0 vks=(argE vks θ).D U):Giv v0 vks θ U U':=
 ⟨hag,fun m k t hk ht=>(aau vks θ v0 hl h m t ht).1 k hk,fun m t hk ht=>(aau vks θ v0 hl h m t ht).2.1 hk,fun m ks t hk ht=>(aau vks θ v0 hl h m t ht).2.2 ks hk⟩
def oZ (v:Nat):List CE->List C×List VK
 | []=>([],[])
 | some k::ks=>(.int k (.var v)::(oZ (v+1) ks).1,.int k::(oZ (v+1) ks).2)
 | none::ks=>(.bool (.bw v)::(oZ (v+1) ks).1,.bool::(oZ (v+1) ks).2)
def yR (heap:List Ob) (b o:Nat) (c:C):Option (List Ob):=match heap[b]? with
 | some (.box cs ty)=>if o<cs.length then some (heap.set b (.box (cs.set o c) ty)) else none
 | _=>none
def ahV (heap:List Ob) (b o:Nat) (l:List C):Option (List Ob):=match heap[b]? with
 | some (.box cs ty)=>if o+l.length<=cs.length then some (heap.set b (.box (cs.take o++(l++cs.drop (o+l.length))) ty)) else none
 | _=>none
def TM.only (m:TM) (ks:List Nat):TM:=⟨ks.foldl (fun T k=>T.set (Nat.log2 m.n+1) k (m.cur.get k)) (.leaf .top),m.n,m.old⟩
def absP (v0:Nat) (p:Pl) (x:St×List VK):Option (St×List VK):=
 let v:=v0+x.2.length
 match p with
 | .top t=>if Nat.blt t x.1.n then some ({x.1 with tmps:=x.1.tmps.set t .top},x.2) else none
 | .tmpI t k=>if Nat.blt t x.1.n then some ({x.1 with tmps:=x.1.tmps.set t (.one (.int k (.var v)))},x.2++[.int k]) else none
 | .tmpB t=>if Nat.blt t x.1.n then some ({x.1 with tmps:=x.1.tmps.set t (.one (.bool (.bw v)))},x.2++[.bool]) else none
 | .tmpA t ks=>if Nat.blt t x.1.n then some ({x.1 with tmps:=x.1.tmps.set t (.agg (oZ v ks).1)},x.2++(oZ v ks).2) else none
 | .tmpS t ks ty=>if Nat.blt t x.1.n then some (⟨x.1.tmps.set t (.one (.sl x.1.heap.length)),x.1.heap++[.row ⟨ks,ty,.lw v,true,kdOf ks⟩]⟩,x.2++[.list ks]) else none
 | .tmpX t ks ty=>if Nat.blt t x.1.n then some (⟨x.1.tmps.set t (.one (.ptr x.1.heap.length 0)),x.1.heap++[.box (oZ v ks).1 ty]⟩,x.2++(oZ v ks).2) else none
 | .cI b o k=>(yR x.1.heap b o (.int k (.var v))).map fun h=>(⟨x.1.tmps,h⟩,x.2++[.int k])
 | .celB b o=>(yR x.1.heap b o (.bool (.bw v))).map fun h=>(⟨x.1.tmps,h⟩,x.2++[.bool])
 | .only ks=>some (⟨x.1.tmps.only ks,x.1.heap⟩,x.2)
 | .cels b o ks=>(ahV x.1.heap b o (oZ v ks).1).map fun h=>(⟨x.1.tmps,h⟩,x.2++(oZ v ks).2)
 | .cT b o ks ty=>(yR x.1.heap b o (.sl x.1.heap.length)).map fun h=>(⟨x.1.tmps,h++[.row ⟨ks,ty,.lw v,true,kdOf ks⟩]⟩,x.2++[.list ks])
 | .celV b o ks ty=>(yR x.1.heap b o (.sl x.1.heap.length)).map fun h=>(⟨x.1.tmps,h++[.row ⟨ks,ty,.lw v,false,kdOf ks⟩]⟩,x.2++[.list ks])
 | .row id=>match x.1.heap[id]? with
   | some (.row r)=>some (⟨x.1.tmps,x.1.heap.set id (.row {r with l:=.lw v})⟩,x.2++[.list r.ks])
   | _=>none
 | .gone id=>if id<x.1.heap.length then some (⟨x.1.tmps,x.1.heap.set id .gone⟩,x.2) else none
 | .ask=>none
def absL (v0:Nat):List Pl->St×List VK->Option (St×List VK)
 | [],x=>some x
 | p::l,x=>(absP v0 p x).bind (absL v0 l)
def vV:List CE->List C->Option (List E)
 | [],[]=>some []
 | some k::ks,.int k' e::cs=>if aZ k k' then(vV ks cs).map (e::·) else none
 | none::ks,.bool e::cs=>(vV ks cs).map (e::·)
 | _,_=>none
def afD (heap:List Ob):C->Option (E×Option Nat)
 | .sl id=>(rwS heap id).map fun r=>(r.l,some id)
 | .nsl=>some (.ln,none)
 | _=>none
def argP (p:Pl) (s:St):Option (List E×List (Option Nat)):=
 match p with
 | .top _=>some ([],[])
 | .tmpI t _=>match s.tmps.get? t with | some (.one (.int _ e))=>some ([e],[]) | _=>none
 | .tmpB t=>match s.tmps.get? t with | some (.one (.bool e))=>some ([e],[]) | _=>none
 | .tmpA t ks=>match s.tmps.get? t with | some (.agg cs)=>(vV ks cs).map fun l=>(l,[]) | _=>none
 | .tmpS t _ _=>match s.tmps.get? t with | some (.one c)=>(afD s.heap c).map fun x=>([x.1],[x.2]) | _=>none
 | .tmpX t ks _=>match s.tmps.get? t with | some (.one (.ptr b 0))=>(match s.heap[b]? with | some (.box cs _)=>(vV ks cs).map fun l=>(l,[some b]) | _=>none) | _=>none
 | .cI b o _=>match ldS s.heap b o with | some (.int _ e)=>some ([e],[]) | _=>none
 | .celB b o=>match ldS s.heap b o with | some (.bool e)=>some ([e],[]) | _=>none
 | .only _=>some ([],[])
 | .cels b o ks=>match s.heap[b]? with | some (.box cs _)=>((seg cs o ks.length).bind (vV ks)).map fun l=>(l,[]) | _=>none
 | .cT b o _ _=>match ldS s.heap b o with | some c=>(afD s.heap c).map fun x=>([x.1],[x.2]) | none=>none
 | .celV b o _ _=>match ldS s.heap b o with | some c=>(afD s.heap c).map fun x=>([x.1],[x.2]) | none=>none
 | .row id=>(rwS s.heap id).map fun r=>([r.l],[])
 | .gone _=>some ([],[])
 | .ask=>none
def argL:List Pl->St->Option (List E×List (Option Nat))
 | [],_=>some ([],[])
 | p::l,s=>match argP p s,argL l s with
   | some x,some y=>some (x.1++y.1,x.2++y.2)
   | _,_=>none
structure Mt where
 v0:Nat
 vks:List VK
 θ:List E
 h0:Nat
 ex:List (Option Nat)
 hd:List Ob
def Mt.sig (m:Mt) (a:Nat):Option (Option Nat):=match m.hd[a]? with
 | some (.box _ _) | some (.row _) | some (.loop _)=>if a<m.h0 then some (some a) else m.ex[a-m.h0]?
 | _=>none
def Mt.okI (m:Mt) (e e':E):Bool:=
 match e with
 | .var n=>if m.v0<=n then(match m.vks[n-m.v0]?,m.θ[n-m.v0]? with | some (.int _),some t=>t.same e' | _,_=>false) else(match e' with | .var n'=>Nat.beq n n' | _=>false)
 | e=>e.same e'&&e.sc m.v0
def Mt.okB (m:Mt) (e e':E):Bool:=
 match e with
 | .bw n=>if m.v0<=n then(match m.vks[n-m.v0]?,m.θ[n-m.v0]? with | some .bool,some t=>t.same e' | _,_=>false) else(match e' with | .bw n'=>Nat.beq n n' | _=>false)
 | e=>e.same e'&&e.sc m.v0
def Mt.okR (m:Mt) (e e':E):Bool:=
 match e with
 | .lw n=>if m.v0<=n then(match m.vks[n-m.v0]?,m.θ[n-m.v0]? with | some (.list _),some t=>t.same e' | _,_=>false) else(match e' with | .lw n'=>Nat.beq n n' | _=>false)
 | e=>e.same e'&&e.sc m.v0
def Mt.okId (m:Mt) (b b':Nat):Bool:=match m.sig b with | some (some x)=>Nat.beq x b' | _=>false
def Mt.okP (m:Mt):Option (Bool×Nat×Nat)->Option (Bool×Nat×Nat)->Bool
 | none,none=>true
 | some (true,b,o),some (true,b',o')=>Nat.beq o o'&&m.okId b b'
 | some (false,b,o),some (false,b',o')=>Nat.beq o o'&&Nat.beq b b'
 | _,_=>false
def Mt.okPs (m:Mt):List (Option (Bool×Nat×Nat))->List (Option (Bool×Nat×Nat))->Bool
 | [],[]=>true
 | x::l,y::r=>m.okP x y&&m.okPs l r
 | _,_=>false
def Mt.okC (m:Mt) (c d:C):Bool:=
 match c with
 | .int k e=>(match d with | .int k' e'=>aZ k k'&&m.okI e e' | _=>false)
 | .bool e=>(match d with | .bool e'=>m.okB e e' | _=>false)
 | .ptr b o=>(match d with | .ptr b' o'=>Nat.beq o o'&&m.okId b b' | _=>false)
 | .fp b o=>(match d with | .fp b' o'=>Nat.beq b b'&&Nat.beq o o' | _=>false)
 | .fn f=>(match d with | .fn f'=>Nat.beq f f' | _=>false)
 | .np=>(match d with | .np=>true | _=>false)
 | .undef=>(match d with | .undef=>true | _=>false)
 | .sl id=>(match d with | .sl id'=>m.okId id id' | .nsl=>(match m.sig id with | some none=>true | _=>false) | _=>false)
 | .ep id z e o=>(match d with | .ep id' z' e' o'=>m.okId id id'&&(Nat.beq z z'&&(m.okI e e'&&Nat.beq o o')) | _=>false)
 | .nsl=>(match d with | .nsl=>true | _=>false)
 | .nf=>(match d with | .nf=>true | _=>false)
 | .nmp=>(match d with | .nmp=>true | _=>false)
 | .pe b o n sz e off=>(match d with | .pe b' o' n' sz' e' off'=>m.okId b b'&&(Nat.beq o o'&&(Nat.beq n n'&&(Nat.beq sz sz'&&(m.okI e e'&&Nat.beq off off')))) | _=>false)
 | .wn id sz lo hi mx=>(match d with | .wn id' sz' lo' hi' mx'=>m.okId id id'&&(Nat.beq sz sz'&&(m.okI lo lo'&&(m.okI hi hi'&&(match mx,mx' with | none,none=>true | some x,some y=>m.okI x y | _,_=>false)))) | _=>false)
 | .aw b o n sz lo hi mx=>(match d with | .aw b' o' n' sz' lo' hi' mx'=>m.okId b b'&&(Nat.beq o o'&&(Nat.beq n n'&&(Nat.beq sz sz'&&(m.okI lo lo'&&(m.okI hi hi'&&m.okI mx mx'))))) | _=>false)
 | .str e=>(match d with | .str e'=>m.okR e e' | _=>false)
 | .mp id=>(match d with | .mp id'=>m.okId id id' | _=>false)
 | .itp id mid=>(match d with | .itp id' mid'=>m.okId id id'&&m.okId mid mid' | _=>false)
 | .yld id=>(match d with | .yld id'=>m.okId id id' | _=>false)
 | .clo g fs ps=>(match d with | .clo g' fs' ps'=>Nat.beq g g'&&(m.okPs fs fs'&&m.okPs ps ps') | _=>false)
def Mt.okCs (m:Mt):List C->List C->Bool
 | [],[]=>true
 | c::cs,d::ds=>m.okC c d&&m.okCs cs ds
 | _,_=>false
def Mt.okW (m:Mt):List C->List C->Nat->List VK->List E->Bool
 | [],[],_,_,_=>true
 | c::cs,d::ds,n,vs,ts=>match c with
   | .int k (.var i)=>bif Nat.beq i n then(match vs with
    | .int _::vs'=>(match ts with
      | t::ts'=>(match d with
        | .int k' e'=>bif aZ k k'&&t.same e' then m.okW cs ds (n+1) vs' ts' else false
        | _=>false)
      | []=>false)
    | _=>false)
     else(bif m.okC (.int k (.var i)) d then(bif Nat.ble m.v0 i then m.okW cs ds (i+1) (m.vks.drop (i+1-m.v0)) (m.θ.drop (i+1-m.v0)) else m.okW cs ds n vs ts) else false)
   | c=>bif m.okC c d then m.okW cs ds n vs ts else false
 | _,_,_,_,_=>false
theorem pX {α:Type} {l:List α} {i:Nat} {a:α} {r:List α} (h:l.drop i=a::r):l[i]? =some a/\l.drop (i+1)=r:=by
 constructor
 ·have:=List.getElem?_drop (xs:=l) (i:=i) (j:=0)
  rw[h] at this
  simpa using this.symm
 ·rw[<-List.drop_drop,h];rfl
theorem vo {m:Mt}:∀{cs ds:List C} {n:Nat} {vs:List VK} {ts:List E},m.v0<=n->m.vks.drop (n-m.v0)=vs->m.θ.drop (n-m.v0)=ts->m.okW cs ds n vs ts=true->m.okCs cs ds=true
 | [],[],_,_,_,_,_,_,_=>rfl
 | [],_::_,_,_,_,_,_,_,h=>by cases h
 | _::_,[],_,_,_,_,_,_,h=>by cases h
 | c::cs,d::ds,n,vs,ts,hn,h1,h2,h=>by
   have step:∀{c:C},(bif m.okC c d then m.okW cs ds n vs ts else false)=true->m.okCs (c::cs) (d::ds)=true:=fun {c} h=>by
    cases hc:m.okC c d with
    | false=>rw[hc] at h;cases h
    | true=>
      rw[hc] at h
      simp only[Mt.okCs,hc,Bool.true_and]
      exact vo hn h1 h2 h
   unfold Mt.okW at h
   split at h
   ·rename_i k i
    cases hb:Nat.beq i n with
    | false=>
      rw[hb] at h
      simp only[cond_false] at h
      cases hc:m.okC (.int k (.var i)) d with
      | false=>rw[hc] at h;cases h
      | true=>
        rw[hc] at h
        simp only[Mt.okCs,hc,Bool.true_and]
        cases hl:Nat.ble m.v0 i with
        | false=>rw[hl] at h;exact vo hn h1 h2 h
        | true=>
          rw[hl] at h
          exact vo (Nat.le_succ_of_le (Nat.le_of_ble_eq_true hl)) rfl rfl h
    | true=>
      rw[hb] at h
      simp only[cond_true] at h
      have:=thm1 hb
      subst this
      split at h
      ·rename_i vs'
       split at h
       ·rename_i t ts'
        split at h
        ·rename_i k' e'
         cases hc:aZ k k'&&t.same e' with
         | false=>rw[hc] at h;cases h
         | true=>
           rw[hc] at h
           rw[thm0] at hc
           obtain⟨a1,a2⟩:=pX h1
           obtain⟨b1,b2⟩:=pX h2
           have e1:i+1-m.v0=i-m.v0+1:=by omega
           have hk:m.okC (.int k (.var i)) (.int k' e')=true:=by
            simp only[Mt.okC,Mt.okI,if_pos hn,a1,b1,hc.1,hc.2,Bool.and_self]
           simp only[Mt.okCs,hk,Bool.true_and]
           exact vo (Nat.le_succ_of_le hn) (by rw[e1];exact a2) (by rw[e1];exact b2) h
        ·cases h
       ·cases h
      ·cases h
   ·exact step h
def Mt.okL (m:Mt) (cs ds:List C):Bool:=m.okW cs ds m.v0 m.vks m.θ
theorem akE {m:Mt} {cs ds:List C} (h:m.okL cs ds=true):m.okCs cs ds=true:=vo (Nat.le_refl _) (by simp) (by simp) h
def Mt.okT (m:Mt):List (Bool×List C)->List (Bool×List C)->Bool
 | [],[]=>true
 | (t,cs)::l,(t',ds)::r=>(t==t')&&(m.okCs cs ds&&m.okT l r)
 | _,_=>false
def Mt.okV (m:Mt):V->V->Bool
 | .top,_=>true
 | .one c,.one d=>m.okC c d
 | .agg cs,.agg ds=>m.okL cs ds
 | .tup l,.tup r=>m.okT l r
 | _,_=>false
def Mt.okLf (m:Mt) (v:V):TT->Bool
 | .leaf u=>m.okV v u
 | .node l r=>match v with
   | .top=>true
   | v=>m.okLf v l&&m.okLf v r
def Mt.okTT (m:Mt):TT->TT->Bool
 | .leaf v,t=>m.okLf v t
 | .node l r,t=>m.okTT l t.fst&&m.okTT r t.snd
def Mt.okOld (m:Mt):List (TT×Nat)->List (TT×Nat)->Bool
 | [],[]=>true
 | (t,n)::l,(t',n')::l'=>Nat.beq n n'&&(m.okTT t t'&&m.okOld l l')
 | _,_=>false
def Mt.okVs (m:Mt) (l r:TM):Bool:=Nat.beq l.n r.n&&(m.okTT l.cur r.cur&&m.okOld l.old r.old)
def Mt.okK (m:Mt):RK->RK->Bool
 | .sl,.sl=>true
 | .map a b c,.map a' b' c'=>Nat.beq a a'&&((b==b')&&(c==c'))
 | .it mid n,.it mid' n'=>m.okId mid mid'&&m.okI n n'
 | .ev,.ev=>true
 | .tab,.tab=>true
 | _,_=>false
def adx:Option Sig->Option Sig->Bool
 | none,none=>true
 | some .normal,some .normal=>true
 | some .ret,some .ret=>true
 | some (.exit a),some (.exit b)=>Nat.beq a b
 | _,_=>false
def LS.same:LS->LS->Bool
 | .ready,.ready=>true
 | .busy,.busy=>true
 | .done,.done=>true
 | _,_=>false
def agb (x y:Lp):Bool:=LS.same x.st y.st&&adx x.pend y.pend
theorem aga {x y:Lp} (h:agb x y=true):x=y:=by
 obtain⟨a,b⟩:=x
 obtain⟨c,d⟩:=y
 simp only[agb,thm0] at h
 have h1:a=c:=by
  have:=h.1
  cases a<;>cases c<;>first | rfl | cases this
 have h2:b=d:=by
  have:=h.2
  rcases b with _ | (_ | _ | _)<;>rcases d with _ | (_ | _ | _)<;>first | rfl | (simp[adx] at this;done) | skip
  rw[thm1 this]
 rw[h1,h2]
def Mt.okOb (m:Mt) (heap:List Ob) (a:Nat):Ob->Bool
 | .gone=>true
 | .box cs ty=>match m.sig a with
   | some (some b)=>(match heap[b]? with | some (.box ds ty')=>Nat.beq ty ty'&&m.okL cs ds | _=>false)
   | _=>false
 | .row r=>match m.sig a with
   | some (some b)=>(match heap[b]? with | some (.row q)=>bQ r.ks q.ks&&(Nat.beq r.ty q.ty&&((r.own==q.own)&&(m.okR r.l q.l&&m.okK r.kd q.kd))) | _=>false)
   | some none=>(match r.ks with | []=>false | _::_=>m.okR r.l .ln&&r.kd.fits r.ks)
   | none=>false
 | .loop y=>match m.sig a with
   | some (some b)=>(match heap[b]? with | some (.loop y')=>agb y y' | _=>false)
   | _=>false
def Mt.okHeap (m:Mt) (heap:List Ob):Nat->List Ob->Bool
 | _,[]=>true
 | a,ob::l=>m.okOb heap a ob&&m.okHeap heap (a+1) l
def Ob.isGone:Ob->Bool
 | .gone=>true
 | _=>false
def exOk (hd:List Ob) (h0:Nat):List (Option Nat)->Bool
 | []=>true
 | none::l=>exOk hd h0 l
 | some b::l=>(if b<h0 then(match hd[b]? with | some ob=>ob.isGone | none=>false) else true)&&((l.all fun x=>match x with | some b'=>!Nat.beq b b' | none=>true)&&exOk hd h0 l)
def aap (heap:List Ob) (b:Nat):Bool:=match heap[b]? with
 | some (.row r)=>!r.own
 | _=>false
def yx (heap:List Ob):Option Nat->Option Nat
 | some b=>if aap heap b then none else some b
 | none=>none
def jU (vk:List VK):List VK->List E->Bool
 | [],[]=>true
 | .int k::ks,e::es=>e.rng vk k&&jU vk ks es
 | .bool::ks,_::es=>jU vk ks es
 | .list ks0::ks,e::es=>e.lok vk ks0&&jU vk ks es
 | _,_=>false
def xD (vk:List VK):List VK->List E->Rm->Bool
 | [],[],_=>true
 | .int k::ks,e::es,m=>match e.rngW vk k m with
   | some m'=>xD vk ks es m'
   | none=>false
 | .bool::ks,_::es,m=>xD vk ks es m
 | .list ks0::ks,e::es,m=>e.lok vk ks0&&xD vk ks es m
 | _,_,_=>false
def rngθ (vk:List VK) (vks:List VK) (θ:List E):Bool:=xD vk vks θ (Rm.ini vk)
theorem jS {vk:List VK}:∀{vks:List VK} {θ:List E} {m:Rm},m.ok vk->xD vk vks θ m=true->jU vk vks θ=true
 | [],[],_,_,_=>rfl
 | .int k::ks,e::es,m,hm,h=>by
   simp only[xD] at h
   split at h
   ·rename_i m' hw
    obtain⟨h1,h2⟩:=xE hm hw
    simp only[jU,h1,jS h2 h,Bool.and_self]
   ·cases h
 | .bool::ks,_::es,m,hm,h=>jS (vks:=ks) (θ:=es) hm h
 | .list ks0::ks,e::es,m,hm,h=>by
   simp only[xD,thm0] at h
   simp only[jU,h.1,jS hm h.2,Bool.and_self]
def xO (v0:Nat) (hd:List Ob):Nat->List VK->Bool
 | _,[]=>true
 | n,.list ks::l=>(hd.any fun ob=>match ob with | .row r=>(match r.l with | .lw m=>Nat.beq m (v0+n) | _=>false)&&bQ r.ks ks | _=>false)&&xO v0 hd (n+1) l
 | n,_::l=>xO v0 hd (n+1) l
def Mt.ok (m:Mt) (cx:Cx) (vk:List VK) (tmps:TM) (s:St):Bool:=
 (m.okVs tmps s.tmps&&m.okHeap s.heap 0 m.hd)&&(exOk m.hd m.h0 (m.ex.map (yx s.heap))&&((cx.fb.all fun cs=>m.okCs cs cs)&&(rngθ vk m.vks m.θ&&xO m.v0 m.hd 0 m.vks)))
section
variable {m:Mt} {U U':Env} {j:J}
theorem iz (hg:Giv m.v0 m.vks m.θ U U') {e e':E} (h:m.okI e e'=true):e.I U'=e'.I U:=by
 unfold Mt.okI at h
 split at h
 ·rename_i n
  split at h
  ·rename_i hn
   split at h
   ·rename_i k t hk ht
    have h1:=hg.i _ _ t hk ht
    rw[show m.v0+(n-m.v0)=n by omega] at h1
    rw[<-E.same_eq h]
    exact h1
   ·cases h
  ·rename_i hn
   split at h
   ·rename_i n'
    rw[<-thm1 h]
    exact(hg.ag n (by omega)).1.symm
   ·cases h
 ·rw[thm0] at h
  rw[<-E.same_eq h.1]
  exact(E.sc_eq hg.ag _ h.2).1.symm
theorem aqy (hg:Giv m.v0 m.vks m.θ U U') {e e':E} (h:m.okB e e'=true):e.B U'=e'.B U:=by
 unfold Mt.okB at h
 split at h
 ·rename_i n
  split at h
  ·rename_i hn
   split at h
   ·rename_i t hk ht
    have h1:=hg.b _ t hk ht
    rw[show m.v0+(n-m.v0)=n by omega] at h1
    rw[<-E.same_eq h]
    exact h1
   ·cases h
  ·rename_i hn
   split at h
   ·rename_i n'
    rw[<-thm1 h]
    exact(hg.ag n (by omega)).2.1.symm
   ·cases h
 ·rw[thm0] at h
  rw[<-E.same_eq h.1]
  exact(E.sc_eq hg.ag _ h.2).2.1.symm
theorem af2 (hg:Giv m.v0 m.vks m.θ U U') {e e':E} (h:m.okR e e'=true):e.R U'=e'.R U:=by
 unfold Mt.okR at h
 split at h
 ·rename_i n
  split at h
  ·rename_i hn
   split at h
   ·rename_i ks t hk ht
    have h1:=hg.l _ _ t hk ht
    rw[show m.v0+(n-m.v0)=n by omega] at h1
    rw[<-E.same_eq h]
    exact h1
   ·cases h
  ·rename_i hn
   split at h
   ·rename_i n'
    rw[<-thm1 h]
    exact(hg.ag n (by omega)).2.2.symm
   ·cases h
 ·rw[thm0] at h
  rw[<-E.same_eq h.1]
  exact(E.sc_eq hg.ag _ h.2).2.2.2.1.symm
def nilSV:SV:=⟨none,0,0,[]⟩
theorem jc {o:Bool} {k:Nat}:¬nilSV.blk o=some k:=fun h=>by have:=aJ h;cases this
def Mt.J (m:Mt) (j:J):J:=
 ⟨fun b=>match m.sig b with | some (some x)=>j.b x | _=>none,fun id=>match m.sig id with | some (some x)=>j.s x | some none=>some nilSV | none=>none,j.f,⟨fun b=>match m.sig b with | some (some x)=>j.g.y x | _=>none,j.g.z⟩⟩
theorem iy {b b':Nat} (h:m.okId b b'=true):(m.J j).b b=j.b b'/\(m.J j).s b=j.s b':=by
 unfold Mt.okId at h
 split at h
 ·rename_i x hx
  rw[<-thm1 h]
  simp only[Mt.J,hx,and_self]
 ·cases h
theorem aqx {b b':Nat} (h:m.okId b b'=true):(m.J j).g.y b=j.g.y b':=by
 unfold Mt.okId at h
 split at h
 ·rename_i x hx
  rw[<-thm1 h]
  simp only[Mt.J,hx]
 ·cases h
theorem aqv {x y:Option (Bool×Nat×Nat)} (h:m.okP x y=true) {v:Value} (hd:ptrV j y=some v):ptrV (m.J j) x=some v:=by
 unfold Mt.okP at h
 split at h
 ·exact hd
 ·simp only[thm0] at h
  have:=thm1 h.1
  subst this
  simp only[ptrV] at hd ⊢
  rw[(iy h.2).1];exact hd
 ·simp only[thm0] at h
  rw[thm1 h.1,thm1 h.2]
  exact hd
 ·cases h
theorem xI:∀{l r:List (Option (Bool×Nat×Nat))},m.okPs l r=true->∀{vs:List Value},de j r=some vs->de (m.J j) l=some vs
 | [],[],_,vs,hd=>hd
 | x::l,y::r,h,vs,hd=>by
   simp only[Mt.okPs,thm0] at h
   simp only[de] at hd ⊢
   cases hx:ptrV j y with
   | none=>rw[hx] at hd;cases hd
   | some v=>
     cases hl:de j r with
     | none=>rw[hx,hl] at hd;cases hd
     | some us=>
       rw[hx,hl] at hd
       rw[aqv h.1 hx,xI h.2 hl]
       exact hd
def kdSm (U U':Env):RK->RK->Prop
 | .sl,.sl=>True
 | .map a b c,.map a' b' c'=>a=a'/\b=b'/\c=c'
 | .it _ n,.it _ n'=>n.I U'=n'.I U
 | .ev,.ev=>True
 | .tab,.tab=>True
 | _,_=>False
theorem aqw (hg:Giv m.v0 m.vks m.θ U U') {a b:RK} (h:m.okK a b=true):kdSm U U' a b:=by
 cases a<;>cases b<;>simp only[Mt.okK] at h<;>first | exact Bool.noConfusion h | skip
 ·trivial
 ·simp only[thm0,dl] at h
  exact⟨thm1 h.1,h.2.1,h.2.2⟩
 ·simp only[thm0] at h
  exact iz hg h.2
 ·trivial
 ·trivial
theorem RowOk.swap {base:Nat} {w:World} {v:SV} {r q:RowOb} (e1:r.ks=q.ks) (e2:r.ty=q.ty) (e3:r.own=q.own) (e4:r.l.R U'=q.l.R U) (e5:kdSm U U' r.kd q.kd) (h:RowOk U base w v q):RowOk U' base w v r:=by
 rcases h.cases with⟨hk,h6⟩ | ⟨hk,h6⟩ | ⟨hk,h6⟩
 ·have hk':r.kd=.sl:=by
   rw[hk] at e5
   cases hr:r.kd<;>rw[hr] at e5<;>first | rfl | exact e5.elim
  refine SlOk.row ⟨?_,?_,?_,by rw[e3];exact h6.lt,fun ho=> ?_,?_⟩ hk'
  ·rw[e4];exact h6.n
  ·rw[e1,e4];exact h6.rows
  ·rw[e1];exact h6.pos
  ·rw[e1,e2,e4];exact h6.own (by rw[<-e3];exact ho)
  ·rw[e1,e4];exact h6.rd
 ·obtain⟨g,ob,h1,h2,h3,h4⟩:=h6.at'
  refine HdOk.row ⟨by rw[e3];exact h6.own,by rw[e1,e4];exact h6.rows,h6.c,g,ob,h1,h2,h3,?_⟩ ?_
  ·unfold obOf at h4 ⊢
   cases hr:r.kd<;>cases hq:q.kd<;>rw[hr,hq] at e5<;>first | exact e5.elim | skip
   ·rw[hq] at hk;cases hk
   ·rw[hq] at h4
    obtain⟨rfl,rfl,rfl⟩:=e5
    rw[e1,e4]
    exact h4
   ·rw[hq] at h4
    have e5':_=_:=e5
    dsimp only at h4 ⊢
    rw[e1,e4,e5']
    exact h4
   ·rw[hq] at hk;cases hk
   ·rw[hq] at h4;exact h4
  ·cases hr:r.kd<;>cases hq:q.kd<;>rw[hr,hq] at e5<;>first | exact e5.elim | rfl | (rw[hq] at hk;cases hk)
 ·have hk':r.kd=.ev:=by
   rw[hk] at e5
   cases hr:r.kd<;>rw[hr] at e5<;>first | rfl | exact e5.elim
  obtain⟨ins,g1,g2,g3,g4⟩:=h6.at'
  exact EvOk.row ⟨by rw[e1];exact h6.ks,by rw[e4];exact h6.n,by rw[e1,e4];exact h6.rows,by rw[e3];exact h6.lt,by rw[e3];exact h6.zb,ins,by rw[e4];exact g1,by rw[e2,e3,e4];exact g2,by rw[e4];exact g3,by rw[e4];exact g4⟩ hk'
theorem af3 (hg:Giv m.v0 m.vks m.θ U U') {c d:C} (h:m.okC c d=true) {v:Value} (hd:d.den U j=some v):c.den U' (m.J j)=some v:=by
 cases c with
 | int k e=>
   simp only[Mt.okC] at h
   split at h
   ·simp only[thm0] at h
    simp only[C.den] at hd ⊢
    rw[az h.1,iz hg h.2];exact hd
   ·cases h
 | bool e=>
   simp only[Mt.okC] at h
   split at h
   ·simp only[C.den] at hd ⊢;rw[aqy hg h];exact hd
   ·cases h
 | ptr b o=>
   simp only[Mt.okC] at h
   split at h
   ·simp only[thm0] at h
    simp only[C.den] at hd ⊢
    rw[thm1 h.1,(iy h.2).1];exact hd
   ·cases h
 | fp b o=>
   simp only[Mt.okC] at h
   split at h
   ·simp only[thm0] at h
    rw[thm1 h.1,thm1 h.2];exact hd
   ·cases h
 | fn f=>
   simp only[Mt.okC] at h
   split at h
   ·rw[thm1 h];exact hd
   ·cases h
 | np=>simp only[Mt.okC] at h;split at h<;>first | exact hd | cases h
 | undef=>simp only[Mt.okC] at h;split at h<;>first | exact hd | cases h
 | nsl=>simp only[Mt.okC] at h;split at h<;>first | exact hd | cases h
 | nf=>simp only[Mt.okC] at h;split at h<;>first | exact hd | cases h
 | nmp=>simp only[Mt.okC] at h;split at h<;>first | exact hd | cases h
 | clo g fs ps=>
   simp only[Mt.okC] at h
   split at h
   ·rename_i g' fs' ps'
    simp only[thm0] at h
    obtain⟨x,y,hx,hy,rfl⟩:=dS (show cloV g' (de j fs') (de j ps')=some v from hd)
    simp only[C.den,xI h.2.1 hx,xI h.2.2 hy,cloV,thm1 h.1]
   ·cases h
 | sl id=>
   simp only[Mt.okC] at h
   split at h
   ·simp only[C.den] at hd ⊢
    rw[(iy h).2];exact hd
   ·split at h
    ·rename_i hs
     cases hd
     simp only[C.den,Mt.J,hs]
     rfl
    ·cases h
   ·cases h
 | pe b o n sz e off=>
   simp only[Mt.okC] at h
   split at h
   ·simp only[thm0] at h
    simp only[C.den] at hd ⊢
    rw[(iy h.1).1,thm1 h.2.1,thm1 h.2.2.2.1,iz hg h.2.2.2.2.1,thm1 h.2.2.2.2.2];exact hd
   ·cases h
 | yld id=>
   simp only[Mt.okC] at h
   split at h
   ·simp only[C.den] at hd ⊢
    rw[aqx h];exact hd
   ·cases h
 | mp id=>
   simp only[Mt.okC] at h
   split at h
   ·simp only[C.den] at hd ⊢
    rw[(iy h).2];exact hd
   ·cases h
 | wn id sz lo hi mx=>
   simp only[Mt.okC] at h
   split at h
   ·rename_i id' sz' lo' hi' mx'
    simp only[thm0] at h
    obtain⟨h1,h2,h3,h4,h5⟩:=h
    have hm:∀c,mxN U' mx c=mxN U mx' c:=fun c=>by
     cases mx<;>cases mx'<;>first | rfl | exact Bool.noConfusion h5 | (simp only[mxN,iz hg h5])
    simp only[C.den] at hd ⊢
    simp only[(iy h1).2,thm1 h2,iz hg h3,iz hg h4,hm];exact hd
   ·cases h
 | aw b o n sz lo hi mx=>
   simp only[Mt.okC] at h
   split at h
   ·simp only[thm0] at h
    obtain⟨h1,h2,h3,h4,h5,h6,h7⟩:=h
    simp only[C.den] at hd ⊢
    rw[(iy h1).1,thm1 h2,thm1 h3,thm1 h4,iz hg h5,iz hg h6,iz hg h7];exact hd
   ·cases h
 | str e=>
   simp only[Mt.okC] at h
   split at h
   ·simp only[C.den] at hd ⊢
    rw[af2 hg h];exact hd
   ·cases h
 | itp id mid=>
   simp only[Mt.okC] at h
   split at h
   ·simp only[thm0] at h
    simp only[C.den] at hd ⊢
    rw[(iy h.1).2,(iy h.2).2];exact hd
   ·cases h
 | ep id z e o=>
   simp only[Mt.okC] at h
   split at h
   ·simp only[thm0] at h
    simp only[C.den] at hd ⊢
    rw[(iy h.1).2,thm1 h.2.1,iz hg h.2.2.1,thm1 h.2.2.2];exact hd
   ·cases h
theorem oy (hg:Giv m.v0 m.vks m.θ U U'):∀{cs ds:List C},m.okCs cs ds=true->∀{vs:List Value},denL U j ds=some vs->denL U' (m.J j) cs=some vs
 | [],[],_,vs,h=>h
 | c::cs,d::ds,h,vs,hd=>by
   simp only[Mt.okCs,thm0] at h
   simp only[denL] at hd ⊢
   cases hc:d.den U j with
   | none=>rw[hc] at hd;cases hd
   | some v=>
     cases hl:denL U j ds with
     | none=>rw[hc,hl] at hd;cases hd
     | some l=>
       rw[hc,hl] at hd
       rw[af3 hg h.1 hc,oy hg h.2 hl]
       exact hd
theorem akD (hg:Giv m.v0 m.vks m.θ U U'):∀{cs ds:List (Bool×List C)},m.okT cs ds=true->∀{vs:List Value},bD U j ds=some vs->bD U' (m.J j) cs=some vs
 | [],[],_,vs,h=>h
 | (t,cs)::l,(t',ds)::r,h,vs,hd=>by
   simp only[Mt.okT,thm0,dl] at h
   obtain⟨rfl,h1,h2⟩:=h
   simp only[bD] at hd ⊢
   cases hc:den0 U j (t,ds) with
   | none=>rw[hc] at hd;cases hd
   | some v=>
     cases hl:bD U j r with
     | none=>rw[hc,hl] at hd;cases hd
     | some us=>
       rw[hc,hl] at hd
       have h3:den0 U' (m.J j) (t,cs)=some v:=by
        cases t with
        | true=>
          simp only[den0,thm4] at hc ⊢
          obtain⟨vs',hv,rfl⟩:=hc
          exact⟨vs',oy hg h1 hv,rfl⟩
        | false=>
          match ds,hc with
          | [d],hc=>
            match cs,h1 with
            | [c],h1=>
              simp only[Mt.okCs,Bool.and_true] at h1
              exact af3 hg h1 hc
            | _::_::_,h1=>simp[Mt.okCs] at h1
       rw[h3,akD hg h2 hl]
       exact hd
theorem aqu (hg:Giv m.v0 m.vks m.θ U U') {x y:V} (h:m.okV x y=true):x=.top\/(y≠.top/\∀{v},y.den U j=some v->x.den U' (m.J j)=some v):=by
 unfold Mt.okV at h
 split at h
 ·exact .inl rfl
 ·exact .inr ⟨fun e=>(by cases e),fun hd=>af3 hg h hd⟩
 ·refine .inr ⟨fun e=>(by cases e),fun hd=> ?_⟩
  simp only[V.den,thm4] at hd ⊢
  obtain⟨l,hl,rfl⟩:=hd
  exact⟨l,oy hg (akE h) hl,rfl⟩
 ·refine .inr ⟨fun e=>(by cases e),fun hd=> ?_⟩
  simp only[V.den,thm4] at hd ⊢
  obtain⟨l,hl,rfl⟩:=hd
  exact⟨l,akD hg h hl,rfl⟩
 ·cases h
theorem xJ {v:V}:∀{t:TT},m.okLf v t=true->∀i,m.okV v (t.get i)=true
 | .leaf u,h,i=>h
 | .node l r,h,i=>by
   rw[TT.get_node]
   by_cases hv:v=.top
   ·subst hv;rfl
   ·have h':(m.okLf v l&&m.okLf v r)=true:=by
     unfold Mt.okLf at h
     split at h
     ·exact absurd rfl hv
     ·exact h
    rw[thm0] at h'
    split
    ·exact xJ h'.1 _
    ·exact xJ h'.2 _
theorem so:∀{t u:TT},m.okTT t u=true->∀i,m.okV (t.get i) (u.get i)=true
 | .leaf v,u,h,i=>xJ h i
 | .node l r,u,h,i=>by
   simp only[Mt.okTT,thm0] at h
   rw[TT.get_node]
   split
   ·rename_i hi;rw[<-TT.get_fst u i hi];exact so h.1 _
   ·rename_i hi;rw[<-TT.get_snd u i hi];exact so h.2 _
theorem aac:∀{l r:List (TT×Nat)},m.okOld l r=true->df l=df r/\∀(i:Nat) x y,fM l i=some x->fM r i=some y->m.okV x y=true
 | [],[],_=>⟨rfl,fun i x y h=>by cases h⟩
 | (t,n)::l,(t',n')::l',h=>by
   simp only[Mt.okOld,thm0] at h
   obtain rfl:=thm1 h.1
   obtain⟨h1,h2⟩:=aac h.2.2
   refine⟨by simp only[df,h1],fun i x y hx hy=> ?_⟩
   unfold fM at hx hy
   split at hx
   ·rename_i hi
    rw[if_pos hi] at hy
    cases hx;cases hy
    exact so h.2.1 i
   ·rename_i hi
    rw[if_neg hi] at hy
    exact h2 _ x y hx hy
theorem aom {l r:TM} (h:m.okVs l r=true):l.length=r.length/\∀(i:Nat) x y,l.get? i=some x->r.get? i=some y->m.okV x y=true:=by
 simp only[Mt.okVs,thm0] at h
 obtain⟨h1,h2,h3⟩:=h
 replace h1:=thm1 h1
 obtain⟨h4,h5⟩:=aac h3
 refine⟨by unfold TM.length;rw[h1,h4],fun i x y hx hy=> ?_⟩
 unfold TM.get? at hx hy
 rw[<-h1] at hy
 split at hx
 ·rename_i hi
  rw[if_pos hi] at hy
  cases hx;cases hy
  exact so h2 i
 ·rename_i hi
  rw[if_neg hi] at hy
  exact h5 _ x y hx hy
theorem vp {heap:List Ob}:∀{l:List Ob} {a:Nat},m.okHeap heap a l=true->∀(i:Nat) ob,l[i]? =some ob->m.okOb heap (a+i) ob=true
 | [],a,_,i,ob,hi=>by simp at hi
 | x::l,a,h,i,ob,hi=>by
   simp only[Mt.okHeap,thm0] at h
   cases i with
   | zero=>simp at hi;subst hi;exact h.1
   | succ i=>
     have:=vp h.2 i ob (by simpa using hi)
     rwa [show a+(i+1)=a+1+i by omega]
theorem agA {hd:List Ob} {h0:Nat}:∀{ex:List (Option Nat)},exOk hd h0 ex=true->(∀(i:Nat) b,ex[i]? =some (some b)->b<h0->∃ob,hd[b]? =some ob/\ob.isGone=true)/\∀(i i':Nat) b,ex[i]? =some (some b)->ex[i']? =some (some b)->i=i'
 | [],_=>⟨fun i b h=>by simp at h,fun i i' b h=>by simp at h⟩
 | x::l,h=>by
   have key:exOk hd h0 l=true/\∀b,x=some b->(b<h0->∃ob,hd[b]? =some ob/\ob.isGone=true)/\∀(i:Nat),l[i]? ≠some (some b):=by
    cases x with
    | none=>exact⟨h,fun b hb=>by cases hb⟩
    | some b=>
      simp only[exOk,thm0] at h
      refine⟨h.2.2,fun b' hb=> ?_⟩
      cases hb
      refine⟨fun hlt=> ?_,fun i hi=> ?_⟩
      ·have h1:=h.1
       rw[if_pos hlt] at h1
       split at h1
       ·rename_i ob hob;exact⟨ob,hob,h1⟩
       ·cases h1
      ·have h2:=thm7.1 h.2.1 _ (ez hi)
       simp at h2
   obtain⟨k1,k2⟩:=key
   obtain⟨g1,g2⟩:=agA k1
   refine⟨fun i b hi hb=> ?_,fun i i' b hi hi'=> ?_⟩
   ·cases i with
    | zero=>simp at hi;exact(k2 b hi).1 hb
    | succ i=>exact g1 i b (by simpa using hi) hb
   ·cases i with
    | zero=>
      simp at hi
      cases i' with
      | zero=>rfl
      | succ i'=>exact absurd (by simpa using hi') ((k2 b hi).2 i')
    | succ i=>
      cases i' with
      | zero=>
        simp at hi'
        exact absurd (by simpa using hi) ((k2 b hi').2 i)
      | succ i'=>rw[g2 i i' b (by simpa using hi) (by simpa using hi')]
theorem adw {heap:List Ob} (h:exOk m.hd m.h0 (m.ex.map (yx heap))=true) {a a' x:Nat} (hv:aap heap x=false) (h1:m.sig a=some (some x)) (h2:m.sig a'=some (some x)):a=a':=by
 obtain⟨g1,g2⟩:=agA h
 have key:∀a,m.sig a=some (some x)->(a<m.h0/\a=x/\∃ob,m.hd[a]? =some ob/\ob.isGone=false)\/(m.h0<=a/\(m.ex.map (yx heap))[a-m.h0]? =some (some x)):=by
  intro a ha
  unfold Mt.sig at ha
  split at ha
  all_goals first
   | cases ha;done
   | split at ha
     ·rename_i hob hlt
      cases ha
      exact .inl ⟨hlt,rfl,_,hob,rfl⟩
     ·exact .inr ⟨by omega,by rw[jq,ha];simp[yx,hv]⟩
 rcases key a h1 with⟨k1,k2,ob,k3,k4⟩ | ⟨k1,k2⟩<;>rcases key a' h2 with⟨l1,l2,ob',l3,l4⟩ | ⟨l1,l2⟩
 ·omega
 ·subst k2
  obtain⟨ob1,q1,q2⟩:=g1 _ _ l2 k1
  rw[k3] at q1;cases q1
  rw[k4] at q2;cases q2
 ·subst l2
  obtain⟨ob1,q1,q2⟩:=g1 _ _ k2 l1
  rw[l3] at q1;cases q1
  rw[l4] at q2;cases q2
 ·have:=g2 _ _ _ k2 l2
  omega
theorem ox {heap:List Ob} (h:m.okHeap heap 0 m.hd=true) {a:Nat} {ob:Ob} (ha:m.hd[a]? =some ob):m.okOb heap a ob=true:=by
 have:=vp h a ob ha
 rwa [bn] at this
theorem oD {cx:Cx} {vk:List VK} {tmps:TM} {s:St} {n:Nat} {X:List Value} {W0:Wb} {w:World} {a:Act} (hok:m.ok cx vk tmps s=true) (hg:Giv m.v0 m.vks m.θ U U') (h:Rel U n X W0 cx.fbs s.fs j a w):Rel U' n X W0 cx.fbs (St.mk tmps m.hd).fs (m.J j) a w:=by
 simp only[Mt.ok,thm0] at hok
 obtain⟨⟨hT,hH⟩,hX,hF,-,-⟩:=hok
 obtain⟨hl,hat⟩:=aom hT
 have sigRow:∀{b:Nat} {ob:Ob},s.heap[b]? =some ob->∀{cs ty},ob=.box cs ty->s.fs.row b=none:=fun hb _ _ e=>by
  subst e;simp only[St.fs,fsOf,rowH,hb]
 have sigBox:∀{b:Nat} {ob:Ob},s.heap[b]? =some ob->∀{r},ob=.row r->s.fs.box b=none:=fun hb _ e=>by
  subst e;simp only[St.fs,fsOf,boxH,hb]
 have boxAt:∀{b cs ty},m.hd[b]? =some (.box cs ty)->∃x ds,m.sig b=some (some x)/\s.heap[x]? =some (.box ds ty)/\m.okCs cs ds=true:=by
  intro b cs ty hb
  have h1:=ox hH hb
  simp only[Mt.okOb] at h1
  split at h1
  ·rename_i x hx
   split at h1
   ·rename_i ds ty' hds
    simp only[thm0] at h1
    have:=thm1 h1.1
    subst this
    exact⟨x,ds,hx,hds,akE h1.2⟩
   ·cases h1
  ·cases h1
 have fR:∀{b r},m.hd[b]? =some (.row r)->(∃x q,m.sig b=some (some x)/\s.heap[x]? =some (.row q)/\r.ks=q.ks/\r.ty=q.ty/\r.own=q.own/\r.l.R U'=q.l.R U/\m.okK r.kd q.kd=true)\/(m.sig b=some none/\0<r.ks.length/\r.l.R U'=[]/\r.kd=kdOf r.ks):=by
  intro b r hb
  have h1:=ox hH hb
  simp only[Mt.okOb] at h1
  split at h1
  ·rename_i x hx
   split at h1
   ·rename_i q hq
    simp only[thm0,dl] at h1
    exact .inl ⟨x,q,hx,hq,bM h1.1,thm1 h1.2.1,h1.2.2.1,af2 hg h1.2.2.2.1,h1.2.2.2.2⟩
   ·cases h1
  ·rename_i hx
   split at h1
   ·cases h1
   ·rename_i k ks hk
    rw[thm0] at h1
    exact .inr ⟨hx,by rw[hk];simp,af2 hg h1.1,RK.fits_eq h1.2⟩
  ·cases h1
 have lpAt:∀{b y},m.hd[b]? =some (.loop y)->∃x,m.sig b=some (some x)/\s.heap[x]? =some (.loop y):=by
  intro b y hb
  have h1:=ox hH hb
  simp only[Mt.okOb] at h1
  split at h1
  ·rename_i x hx
   split at h1
   ·rename_i y' hy
    exact⟨x,hx,by rw[aga h1];exact hy⟩
   ·cases h1
  ·cases h1
 have noneSig:∀{b},(∀cs ty,m.hd[b]? ≠some (.box cs ty))->(∀r,m.hd[b]? ≠some (.row r))->(∀y,m.hd[b]? ≠some (.loop y))->m.sig b=none:=by
  intro b h1 h2 h0
  unfold Mt.sig
  split
  ·rename_i hb;exact absurd hb (h1 _ _)
  ·rename_i hb;exact absurd hb (h2 _)
  ·rename_i hb;exact absurd hb (h0 _)
  ·rfl
 have fsBox:∀b cs ty,(St.mk tmps m.hd).fs.box b=some (cs,ty)->m.hd[b]? =some (.box cs ty):=by
  intro b cs ty hb
  simp only[St.fs,fsOf,boxH] at hb
  split at hb
  ·rename_i cs' ty' hb';cases hb;exact hb'
  ·cases hb
 have fsRow:∀b r,(St.mk tmps m.hd).fs.row b=some (some r)->m.hd[b]? =some (.row r):=by
  intro b r hb
  simp only[St.fs,fsOf,rowH] at hb
  split at hb
  ·rename_i r' hb';cases hb;exact hb'
  ·cases hb
  ·cases hb
 have rowBack:∀{x q},s.heap[x]? =some (.row q)->s.fs.row x=some (some q):=fun hx=>by simp only[St.fs,fsOf,rowH,hx]
 have boxBack:∀{x cs ty},s.heap[x]? =some (.box cs ty)->s.fs.box x=some (cs,ty):=fun hx=>by simp only[St.fs,fsOf,boxH,hx]
 have at1:∀t v,(s.fs.tmp t=.top\/(s.fs.tmp t).den U j=some v)->((St.mk tmps m.hd).fs.tmp t=.top\/((St.mk tmps m.hd).fs.tmp t).den U' (m.J j)=some v):=by
  intro t v h2
  rcases aV t tmps.length with h3 | h3
  ·obtain⟨x,hx⟩:=TM.get_some h3
   obtain⟨y,hy⟩:=TM.get_some (m:=s.tmps) (i:=t) (by omega)
   have h5:=hat t _ _ hx hy
   have e1:(St.mk tmps m.hd).fs.tmp t=x:=by simp[St.fs,fsOf,hx]
   have e2:s.fs.tmp t=y:=by simp[St.fs,fsOf,hy]
   rw[e1]
   rw[e2] at h2
   rcases aqu hg (j:=j) h5 with h6 | ⟨h6,h7⟩
   ·exact .inl h6
   ·rcases h2 with h2 | h2
    ·exact absurd h2 h6
    ·exact .inr (h7 h2)
  ·have e1:(St.mk tmps m.hd).fs.tmp t=.one .undef:=by simp only[St.fs,fsOf];rw[TM.get_none.2 h3];rfl
   have e2:s.fs.tmp t=.one .undef:=by simp only[St.fs,fsOf];rw[TM.get_none.2 (by omega)];rfl
   rw[e1]
   rw[e2] at h2
   rcases h2 with h2 | h2
   ·cases h2
   ·exact .inr h2
 refine⟨h.defers,h.size,fun t ht=> ?_,fun i v hi=>at1 _ v (h.sav i v hi),fun b cs ty hb=> ?_,fun b hb=> ?_,fun b b' k hb hb'=> ?_,fun b r hb=> ?_,fun b hb=> ?_,fun b b' k r v hb hr hs hk=> ?_,fun b b' r r' v v' k hr ho hr' hs hs' hk hk'=> ?_,fun b cs hb=> ?_,h.ext,⟨h.gs.at',fun k o b hz e=> ?_,fun k o id r v hz hr hs hc e=> ?_,h.gs.md,h.gs.nd,fun id y hy=> ?_,fun id hF hy=> ?_,fun id r v hr hs p hp=> ?_,fun id r v hr hk hs=> ?_⟩⟩
 ·obtain⟨v,h1,h2⟩:=h.tmp t ht
  exact⟨v,h1,at1 t v h2⟩
 ·obtain⟨x,ds,h1,h2,h3⟩:=boxAt (fsBox b cs ty hb)
  obtain⟨k,vs,h4,h5,h6,h7⟩:=h.box x ds ty (boxBack h2)
  exact⟨k,vs,by simp only[Mt.J,h1];exact h4,h5,oy hg h3 h6,h7⟩
 ·simp only[Mt.J]
  cases hs:m.hd[b]? with
  | none=>rw[noneSig (by rw[hs];intros;simp) (by rw[hs];intros;simp) (by rw[hs];intros;simp)]
  | some ob=>
    cases ob with
    | box cs ty=>simp[St.fs,fsOf,boxH,hs] at hb
    | gone=>rw[noneSig (by rw[hs];intros;simp) (by rw[hs];intros;simp) (by rw[hs];intros;simp)]
    | row r=>
      rcases fR hs with⟨x,q,h1,h2,_⟩ | ⟨h1,_⟩
      ·rw[h1];exact h.nob x (sigBox h2 rfl)
      ·rw[h1]
    | loop y=>
      obtain⟨x,h1,h2⟩:=lpAt hs
      rw[h1];exact h.nob x (by simp only[St.fs,fsOf,boxH,h2])
 ·simp only[Mt.J] at hb hb'
  split at hb<;>first | cases hb;done | skip
  rename_i x hx
  split at hb'<;>first | cases hb';done | skip
  rename_i x' hx'
  have:=h.inj x x' k hb hb'
  subst this
  refine adw hX ?_ hx hx'
  unfold aap
  split
  ·rename_i q hq
   have:=h.nob x (sigBox hq rfl)
   rw[hb] at this;cases this
  ·rfl
 ·rcases fR (fsRow b r hb) with⟨x,q,h1,h2,e1,e2,e3,e4,e5⟩ | ⟨h1,h2,h3,h4⟩
  ·obtain⟨v,h5,h6⟩:=h.row x q (rowBack h2)
   exact⟨v,by simp only[Mt.J,h1];exact h5,RowOk.swap e1 e2 e3 e4 (aqw hg e5) h6⟩
  ·refine⟨nilSV,by simp only[Mt.J,h1],?_⟩
   rcases bC r.ks with⟨g1,g2⟩ | ⟨_,g2⟩
   ·exact EvOk.row ⟨g1,by rw[h3];rfl,by rw[h3];exact⟨fun r hr=>(by cases hr),by simp⟩,fun k hk=>absurd hk jc,fun _ p hp=>(by cases hp),[],by rw[h3];rfl,fun _=>(by rw[h3];exact World.ownsRow_nil _ _ _ _),by rw[h3];exact RdRow.nil,fun i row x hr=>by rw[h3] at hr;simp at hr⟩ (h4.trans g2)
   ·refine SlOk.row ⟨by rw[h3];rfl,by rw[h3];exact⟨fun r hr=>(by cases hr),by simp⟩,h2,fun k hk=>absurd hk jc,fun _=>(by rw[h3];exact World.ownsRow_nil _ _ _ _),?_⟩ (h4.trans g2)
    rw[h3]
    exact RdRow.nil
 ·simp only[Mt.J]
  cases hs:m.hd[b]? with
  | none=>rw[noneSig (by rw[hs];intros;simp) (by rw[hs];intros;simp) (by rw[hs];intros;simp)]
  | some ob=>
    cases ob with
    | row r=>simp[St.fs,fsOf,rowH,hs] at hb
    | gone=>simp[St.fs,fsOf,rowH,hs] at hb
    | box cs ty=>
      obtain⟨x,ds,h1,h2,h3⟩:=boxAt hs
      rw[h1];exact h.nor x (sigRow h2 rfl)
    | loop y=>
      obtain⟨x,h1,h2⟩:=lpAt hs
      rw[h1];exact h.nor x (by simp only[St.fs,fsOf,rowH,h2])
 ·simp only[Mt.J] at hb hs
  split at hb<;>first | cases hb;done | skip
  rename_i x hx
  rcases fR (fsRow b' r hr) with⟨x',q,h1,h2,_,_,e3,_⟩ | ⟨h1,_⟩
  ·rw[h1] at hs
   exact h.sep x x' k q v hb (rowBack h2) hs (by rw[<-e3];exact hk)
  ·rw[h1] at hs
   cases hs
   exact jc hk
 ·simp only[Mt.J] at hs hs'
  rcases fR (fsRow b r hr) with⟨x,q,h1,h2,_,_,e3,_⟩ | ⟨h1,_⟩
  ·rcases fR (fsRow b' r' hr') with⟨x',q',h1',h2',_,_,e3',_⟩ | ⟨h1',_⟩
   ·rw[h1] at hs
    rw[h1'] at hs'
    have:=h.rsep x x' q q' v v' k (rowBack h2) (by rw[<-e3];exact ho) (rowBack h2') hs hs' (by rw[<-e3];exact hk) (by rw[<-e3'];exact hk')
    subst this
    exact adw hX (by simp only[aap,h2];rw[<-e3,ho];rfl) h1 h1'
   ·rw[h1'] at hs'
    cases hs'
    exact absurd hk' jc
  ·rw[h1] at hs
   cases hs
   exact absurd hk jc
 ·obtain⟨k,vs,h1,h2,h3,h4⟩:=h.fb b cs hb
  refine⟨k,vs,h1,h2,oy hg ?_ h3,h4⟩
  exact thm7.1 hF cs (ez hb)
 ·simp only[Mt.J] at e
  split at e<;>first | cases e;done | skip
  rename_i x hx
  exact h.gs.box k o x hz e
 ·simp only[Mt.J] at hs
  rcases fR (fsRow id r hr) with⟨x,q,h1,h2,_,_,e3,_⟩ | ⟨h1,_⟩
  ·rw[h1] at hs
   exact h.gs.row k o x q v hz (rowBack h2) hs (by rw[<-e3];exact hc) (by rw[<-e3];exact e)
  ·rw[h1] at hs
   cases hs
   exact jc e
 ·have hy':m.hd[id]? =some (.loop y):=by
   simp only[St.fs,fsOf,lpH] at hy
   split at hy
   ·rename_i y' hy';cases hy;exact hy'
   ·cases hy
  obtain⟨x,h1,h2⟩:=lpAt hy'
  obtain⟨rf,o,h3,h4,h5,h6⟩:=h.gs.lp x y (by simp only[St.fs,fsOf,lpH,h2])
  exact⟨rf,o,h3,by simp only[Mt.J,h1];exact h4,h5,h6⟩
 ·simp only[Mt.J]
  cases hs:m.hd[id]? with
  | none=>rw[noneSig (by rw[hs];intros;simp) (by rw[hs];intros;simp) (by rw[hs];intros;simp)]
  | some ob=>
    cases ob with
    | row r=>simp[St.fs,fsOf,rowH,hs] at hF
    | gone=>simp[St.fs,fsOf,rowH,hs] at hF
    | loop y=>simp[St.fs,fsOf,lpH,hs] at hy
    | box cs ty=>
      obtain⟨x,ds,h1,h2,h3⟩:=boxAt hs
      rw[h1];exact h.gs.nol x (sigRow h2 rfl) (by simp only[St.fs,fsOf,lpH,h2])
 ·simp only[Mt.J] at hs
  rcases fR (fsRow id r hr) with⟨x,q,h1,h2,_,_,e3,_⟩ | ⟨h1,_⟩
  ·rw[h1] at hs
   exact h.gs.ev x q v (rowBack h2) hs p hp
  ·rw[h1] at hs
   cases hs
   cases hp
 ·simp only[Mt.J] at hs
  rcases fR (fsRow id r hr) with⟨x,q,h1,h2,e1,_,_,e4,e5⟩ | ⟨h1,_,_,h4⟩
  ·rw[h1] at hs
   have hq:q.kd=.tab:=by
    rw[hk] at e5
    cases hqk:q.kd<;>rw[hqk] at e5<;>first | rfl | cases e5
   exact(h.gs.tb x q v (rowBack h2) hq hs).mono e4 e1 (fun _ _ _ hz=>hz) (fun _ _=>rfl)
  ·exact absurd (h4.symm.trans hk) xS
def givE (v0:Nat) (θ:List E) (U:Env):Env:=
 ⟨fun i=>if v0<=i then(match θ[i-v0]? with | some t=>t.I U | none=>0) else U.i i,fun i=>if v0<=i then(match θ[i-v0]? with | some t=>t.B U | none=>false) else U.b i,fun i=>if v0<=i then(match θ[i-v0]? with | some t=>t.R U | none=>[]) else U.l i⟩
theorem agv (v0:Nat) (vks:List VK) (θ:List E) (U:Env):Giv v0 vks θ U (givE v0 θ U):=by
 refine⟨fun i hi=> ?_,fun m k t _ ht=> ?_,fun m t _ ht=> ?_,fun m ks t _ ht=> ?_⟩
 ·have:¬v0<=i:=by omega
  simp[givE,this]
 all_goals simp[givE,ht]
theorem jT {vk:List VK}:∀{vks:List VK} {θ:List E},jU vk vks θ=true->θ.length=vks.length
 | [],[],_=>rfl
 | .int k::ks,e::es,h=>by simp only[jU,thm0] at h;simp[jT h.2]
 | .bool::ks,e::es,h=>by simp only[jU] at h;simp[jT h]
 | .list k::ks,e::es,h=>by simp only[jU,thm0] at h;simp[jT h.2]
 | .int _::_,[],h=>by cases h
 | .bool::_,[],h=>by cases h
 | .list _::_,[],h=>by cases h
theorem mj {vk:List VK} (hv:Vk U vk):∀{vks:List VK} {θ:List E},jU vk vks θ=true->(∀(i:Nat) ks t,vks[i]? =some (.list ks)->θ[i]? =some t->(t.R U).length<=maxLen)->okDs vks ((argE vks θ).D U)
 | [],[],_,_=>trivial
 | .int k::ks,e::es,h,hl=>by
   simp only[jU,thm0] at h
   exact⟨E.rng_ok hv e h.1,mj hv h.2 (fun i k t h1 h2=>hl (i+1) k t (by simpa using h1) (by simpa using h2))⟩
 | .bool::ks,e::es,h,hl=>by
   simp only[jU] at h
   refine⟨?_,mj hv h (fun i k t h1 h2=>hl (i+1) k t (by simpa using h1) (by simpa using h2))⟩
   show b2i (e.B U)=0\/b2i (e.B U)=1
   cases e.B U<;>simp[b2i]
 | .list k::ks,e::es,h,hl=>by
   simp only[jU,thm0] at h
   exact⟨⟨E.lok_ok hv e h.1,hl 0 k e rfl rfl⟩,mj hv h.2 (fun i k t h1 h2=>hl (i+1) k t (by simpa using h1) (by simpa using h2))⟩
 | .int _::_,[],h,_=>by cases h
 | .bool::_,[],h,_=>by cases h
 | .list _::_,[],h,_=>by cases h
theorem ajj {vk:List VK} {vks:List VK} {θ:List E} (h:rngθ vk vks θ=true):θ.length=vks.length:=jT (jS (Rm.ini_ok vk) h)
theorem an3 {vk:List VK} (hv:Vk U vk) {vks:List VK} {θ:List E} (h:rngθ vk vks θ=true) (hl:∀(i:Nat) ks t,vks[i]? =some (.list ks)->θ[i]? =some t->(t.R U).length<=maxLen):okDs vks ((argE vks θ).D U):=mj hv (jS (Rm.ini_ok vk) h) hl
theorem aan {v0:Nat} {hd:List Ob}:∀{vks:List VK} {n:Nat},xO v0 hd n vks=true->∀(i:Nat) ks,vks[i]? =some (.list ks)->∃r:RowOb,.row r∈hd/\r.l=.lw (v0+(n+i))
 | [],n,_,i,ks,hi=>by simp at hi
 | k::l,n,h,i,ks,hi=>by
   cases i with
   | zero=>
     simp only[bK,bh] at hi
     subst hi
     simp only[xO,thm0,List.any_eq_true] at h
     obtain⟨ob,h1,h2⟩:=h.1
     split at h2
     ·rename_i r
      rw[thm0] at h2
      have h3:=h2.1
      split at h3
      ·rename_i m hm
       exact⟨r,h1,by rw[hm,thm1 h3];rfl⟩
      ·cases h3
     ·cases h2
   | succ i=>
     have h':xO v0 hd (n+1) l=true:=by
      cases k<;>first | exact h | (simp only[xO,thm0] at h;exact h.2)
     obtain⟨r,h1,h2⟩:=aan h' i ks (by simpa using hi)
     exact⟨r,h1,by rw[h2];congr 1;omega⟩
theorem abm {cx:Cx} {vk:List VK} {tmps:TM} {s:St} {n:Nat} {X:List Value} {W0:Wb} {w:World} {a:Act} (hok:m.ok cx vk tmps s=true) (hv:Vk U vk) (h:Rel U n X W0 cx.fbs s.fs j a w):m.θ.length=m.vks.length/\okDs m.vks ((argE m.vks m.θ).D U):=by
 have hrel:=oD hok (agv m.v0 m.vks m.θ U) h
 simp only[Mt.ok,thm0] at hok
 obtain⟨_,_,_,hR,hL⟩:=hok
 refine⟨ajj hR,an3 hv hR (fun i ks t hi ht=> ?_)⟩
 obtain⟨r,h1,h2⟩:=aan hL i ks hi
 obtain⟨b,hb,he⟩:=List.getElem_of_mem h1
 have hrow:(St.mk tmps m.hd).fs.row b=some (some r):=by simp[St.fs,fsOf,rowH,thm6 hb,he]
 obtain⟨v,_,h3⟩:=hrel.row b r hrow
 have h4:=h3.rows.len
 rw[h2,bn] at h4
 have h5:=(agv m.v0 m.vks m.θ U).l i ks t hi ht
 simp only[E.R] at h4
 rw[h5] at h4
 exact h4
end
def fN (o:Oper) (ms:List Nat):Nat:=
 o.after.toList.foldl (fun m e=>if Region.binds .any e then m ||| (2 ^ e.on ||| ms.getD e.on 0) else m) 0
def sk (ops:Array Oper) (r:Rec) (m:Nat):Nat->List Rec->Bool
 | _,[]=>true
 | k,x::pre=>(m.testBit k||ajB ops x r)&&sk ops r m (k+1) pre
def ordK (ops:Array Oper):List Rec->Nat->List Rec->List Nat->Bool
 | [],_,_,_=>true
 | r::l,i,pre,ms=>
   (r.o.after.toList.all fun e=>!Region.binds .any e||decide (e.on<i))&&(sk ops r (fN r.o ms) 0 pre&&ordK ops l (i+1) (pre++[r]) (ms++[fN r.o ms]))
section
variable {ops:Array Oper}
theorem sA {ms:List Nat} {k:Nat}:∀(l:List Edge) (m0:Nat),(l.foldl (fun m e=>if Region.binds .any e then m ||| (2 ^ e.on ||| ms.getD e.on 0) else m) m0).testBit k=true->
  m0.testBit k=true\/∃e∈l,Region.binds .any e=true/\(k=e.on\/(ms.getD e.on 0).testBit k=true)
 | [],m0,h=>.inl h
 | e::l,m0,h=>by
   simp only[List.foldl_cons] at h
   rcases sA l _ h with h1 | ⟨e',h1,h2⟩
   ·split at h1
    ·rename_i hb
     rw[Nat.testBit_or,Nat.testBit_or,Nat.testBit_two_pow,bG,bG,bl] at h1
     rcases h1 with h1 | h1 | h1
     ·exact .inl h1
     ·exact .inr ⟨e,bA,hb,.inl h1.symm⟩
     ·exact .inr ⟨e,bA,hb,.inr h1⟩
    ·exact .inl h1
   ·exact .inr ⟨e',bZ _ h1,h2⟩
theorem zX {r:Rec} {m:Nat}:∀(pre:List Rec) (k0:Nat),sk ops r m k0 pre=true->∀(k:Nat) x,pre[k]? =some x->m.testBit (k0+k)=true\/Indep ops x r
 | y::pre,k0,h,k,x,hk=>by
   simp only[sk,thm0,bG] at h
   cases k with
   | zero=>
     simp only[bK,bh] at hk
     subst hk
     exact h.1.imp id aaq
   | succ k=>
     have:=zX pre (k0+1) h.2 k x (by simpa using hk)
     rwa [Nat.add_assoc,Nat.add_comm 1 k] at this
 | [],_,_,k,x,hk=>by simp at hk
theorem afW (hidx:∀(i:Nat) r,∀L:List Rec,ops.toList=L.map (·.o)->L[i]? =some r->ops[i]? =some r.o):∀(post pre:List Rec) (ms:List Nat),ops.toList=(pre++post).map (·.o)->ordK ops post pre.length pre ms=true->ms.length=pre.length->
  (∀(i:Nat),i<ms.length->∀k,(ms.getD i 0).testBit k=true->∀sel,fh ops sel->(∀o,ops[i]? =some o->∀e∈o.after,Region.binds .any e=true->sel e.on=true)->sel k=true)->
  (∀(i:Nat) r,pre.length<=i->(pre++post)[i]? =some r->∀e∈r.o.after,Region.binds .any e=true->e.on<i)/\
  (∀(k i:Nat) x r,k<i->pre.length<=i->(pre++post)[k]? =some x->(pre++post)[i]? =some r->Indep ops x r\/∀sel,fh ops sel->(∀o,ops[i]? =some o->∀e∈o.after,Region.binds .any e=true->sel e.on=true)->sel k=true)
 | [],pre,ms,hl,h,hm,hms=>by
   have none:∀(i:Nat) r,pre.length<=i->¬(pre++[])[i]? =some r:=fun i r hi hr=>by
    rw[List.append_nil,bB hi] at hr;cases hr
   exact⟨fun i r hi hr=>absurd hr (none i r hi),fun k i x r _ hi _ hr=>absurd hr (none i r hi)⟩
 | r0::post,pre,ms,hl,h,hm,hms=>by
   simp only[ordK,thm0] at h
   obtain⟨h1,h2,h3⟩:=h
   have e1:pre++r0::post=(pre++[r0])++post:=by simp
   have at0:ops[pre.length]? =some r0.o:=hidx pre.length r0 _ hl (by simp)
   have hmask:∀k,(fN r0.o ms).testBit k=true->∀sel,fh ops sel->(∀o,ops[pre.length]? =some o->∀e∈o.after,Region.binds .any e=true->sel e.on=true)->sel k=true:=by
    intro k hk sel hc he
    rcases sA _ 0 hk with h4 | ⟨e,h4,h5,h6⟩
    ·simp at h4
    ·have h4':e∈r0.o.after:=by simpa using h4
     have hs:=he _ at0 e h4' h5
     rcases h6 with rfl | h6
     ·exact hs
     ·rcases aV e.on ms.length with h7 | h7
      ·exact hms e.on h7 k h6 sel hc (fun o ho e' he' hb=>hc e.on o ho hs e' he' hb)
      ·rw[cN,bB h7] at h6
       simp at h6
   obtain⟨g1,g2⟩:=afW hidx post (pre++[r0]) (ms++[fN r0.o ms]) (by rw[<-e1];exact hl) (by simpa using h3) (by simp[hm]) (fun i hi k hk=>by
    rcases aV i ms.length with h4 | h4
    ·rw[cN,thm8 h4,<-cN] at hk
     exact hms i h4 k hk
    ·have:i=ms.length:=by simp at hi;omega
     subst this
     rw[cN,thm9 (Nat.le_refl _)] at hk
     simp only[Nat.sub_self,bK,Option.getD_some] at hk
     rw[hm]
     exact hmask k hk)
   rw[e1]
   refine⟨fun i r hi hr=> ?_,fun k i x r hk hi hx hr=> ?_⟩
   ·rcases aV pre.length i with h4 | h4
    ·exact g1 i r (by simp;omega) hr
    ·have:i=pre.length:=by omega
     subst this
     have:r=r0:=by simpa using hr.symm
     subst this
     intro e he hb
     have:=thm7.1 h1 e (by simpa using he)
     simpa[hb] using this
   ·rcases aV pre.length i with h4 | h4
    ·exact g2 k i x r hk (by simp;omega) hx hr
    ·have:i=pre.length:=by omega
     subst this
     have:r=r0:=by simpa using hr.symm
     subst this
     rw[<-e1,thm8 hk] at hx
     rcases zX pre 0 h2 k x hx with h5 | h5
     ·rw[bn] at h5
      exact .inr (hmask k h5)
     ·exact .inl h5
end
def ajy (f:St->Kw->(Sig->St->Kw->Tr)->Tr):Nat->St->Kw->(Sig->St->Kw->Tr)->Tr
 | 0,_,_,_=>.stuck 73
 | n+1,s,kw,k=>f s kw fun sg s kw=>match sg with
   | .normal=>ajy f n s kw k
   | sg=>k sg s kw
def fid:Code->Option Nat
 | .region id _ _=>some id
 | .seq a b=>(match fid a with | some i=>some i | none=>fid b)
 | .block _ c=>fid c
 | .loop c=>fid c
 | .cond _ x y=>(match fid x with | some i=>some i | none=>fid y)
 | _=>none
def akP (c:Code) (l:List (Nat×List Pl)):Option (Nat×List Pl):=match fid c with
 | some i=>(av i l).map (i,·)
 | none=>none
def Kw.head (kw:Kw) (vks:List VK):Kw:=⟨kw.pc.filter fun p=>p.1.sc kw.vk.length,[],kw.vk++vks,kw.lv+1⟩
def ajs (cx:Cx) (lv v0:Nat) (vks:List VK) (hd:St) (h0:Nat) (pls:List Pl) (s:St) (kw:Kw):Tr:=match argL pls s with
 | some (θ,ex)=>if Mt.ok ⟨v0,vks,θ,h0,ex,hd.heap⟩ cx kw.vk hd.tmps s then .next lv (argE vks θ) else .stuck 110
 | none=>.stuck 111
abbrev ClK:=Nat->List V->St->Kw->(V->St->Kw->Tr)->Tr
def yB:Nat:=1000000
structure RfS where
 ps:Array Nat
 assign:Code
 body:Code
 dep:Nat
 len:Nat
 hints:List (Nat×List Pl)
 cuts:List (Nat×List Pl)
abbrev RlK:=RfS->ClK
def sq (heap:List Ob):Bool:=heap.all Ob.noLp
def oF:Operand->Bool
 | .const (.slice none 0 0)=>true
 | _=>false
def aoz (cx:Cx) (o:Oper):Bool:=match o.op with
 | .next _ false=>true
 | .binOp .eql _ _ y _=>oF y
 | .call c=>(match cx.fns with
   | []=>false
   | _::_=>match c.callee with
     | .value (.func g)=>!(cx.sm.any fun s=>Nat.beq s.f g)
     | .value (.tmp _)=>true
     | _=>false)
 | _=>false
def dR:Nat->List Oper->List (Nat×Oper)
 | _,[]=>[]
 | i,o::l=>(i,o)::dR (i+1) l
def kp (cx:Cx):List (Nat×Oper)->Option (Nat×Oper)
 | []=>none
 | p::l=>if aoz cx p.2 then some p else kp cx l
def dQ (ops:Array Oper):List Nat:=ops.toList.foldl (fun ms o=>ms++[fN o ms]) []
def capV:Option (Bool×Nat×Nat)->V
 | none=>.one .np
 | some (true,b,o)=>.one (.ptr b o)
 | some (false,b,o)=>.one (.fp b o)
def inlK (cl:ClK) (o:Oper) (g:Nat) (args:List V) (s:St) (kw:Kw) (k:St->Kw->Tr):Tr:=
 cl g args s kw fun v s' kw'=>match o.dst with
  | none=>k s' kw'
  | some d=>if Nat.blt d s'.n then k ⟨s'.tmps.set d v,s'.heap⟩ kw' else .stuck 60
def arX (cx:Cx) (s:St) (kw:Kw) (o:Oper):Bool:=
 match o.op with
 | .call c=>match c.callee with
   | .value f=>match evS s.n s.tmps f,evL (evS s.n s.tmps) c.args.toList with
     | some (.one (.fn g)),some args=>(pR kw.vk (s.vw cx) g args cx.sm).isSome
     | _,_=>false
   | _=>false
 | _=>false
def al9 (s:St) (kw:Kw):Mt:=⟨kw.vk.length,[],[],s.heap.length,[],s.heap⟩
def nilE (l:E) (v:Nat):E:=.not (.and (.eq (.var v) (.lit 0)) (.lt (.lit 0) (eD l)))
def nilK (cx:Cx) (o:Oper) (xt id:Nat) (s:St) (kw:Kw) (k:St->Kw->Tr):Tr:=
 match rwS s.heap id,av xt cx.ty with
 | some r,some i=>
   if r.kd.isSl&&(i.sle.isSome&&Mt.ok (al9 s kw) cx kw.vk s.tmps s) then
    .any kw.vk.length (nilE r.l kw.vk.length) (match s.app o.dst {val:=.one (.bool (.eq (.var kw.vk.length) (.lit 0)))} with
     | some s'=>k s' (kw.head [.int .i64])
     | none=>.stuck 60)
   else .stuck 191
 | _,_=>.stuck 192
def goK (cl:ClK) (cx:Cx) (o:Oper) (s:St) (kw:Kw) (k:St->Kw->Tr):Tr:=
 match o.op with
 | .binOp .eql xt x y _=>if oF y then(match evS s.n s.tmps x with
   | some (.one (.sl id))=>nilK cx o xt id s kw k
   | some (.one .nsl)=>(match av xt cx.ty with
     | some i=>if i.sle.isSome then(match s.app o.dst {val:=.one (.bool (.tt true))} with
       | some s'=>k s' kw
       | none=>.stuck 60) else .stuck 193
     | none=>.stuck 193)
   | _=>.stuck 194) else .stuck 195
 | .call c=>match c.callee with
   | .value f=>match evS s.n s.tmps f,evL (evS s.n s.tmps) c.args.toList with
     | some (.one (.fn g)),some args=>if Nat.blt g yB then inlK cl o g args s kw k else .stuck 208
     | some (.one (.clo g fs ps)),some args=>if Nat.blt g yB then inlK cl o g (fs.map capV++args++ps.map capV) s kw k else .stuck 208
     | some (.one (.yld id)),some args=>inlK cl o (yB+id) args s kw k
     | _,_=>.stuck 123
   | _=>.stuck 124
 | .next x false=>match evS s.n s.tmps x with
   | some (.one (.itp id mid))=>.stuck 301
   | _=>.stuck 158
 | _=>.stuck 125
def ahQ (o:Oper) (s:St) (kw:Kw) (k:St->Kw->Tr):Tr:=match s.app o.dst {val:=.one .undef} with
 | some s'=>k s' kw
 | none=>.stuck 60
def barK (cl:ClK) (cx:Cx) (ops:Array Oper) (o:Oper) (s:St) (kw:Kw) (k:St->Kw->Tr):Tr:=
 if arX cx s kw o then opsK cx ops [o] s kw fun _ s kw=>k s kw else
 match o.guard with
 | none=>goK cl cx o s kw k
 | some (g,b)=>match((ops[g]?).bind (·.dst)).bind (fun t=>if Nat.blt t s.n then s.tmps.get? t else none) with
   | some (.one (.bool e))=>decK e (fun x kw=>if x==b then goK cl cx o s kw k else ahQ o s kw k) kw
   | some (.one .undef)=>ahQ o s kw k
   | _=>.stuck 61
def regS (cl:ClK) (cx:Cx) (ops:Array Oper):List Oper->St->Kw->(St->Kw->Tr)->Tr
 | [],s,kw,k=>k s kw
 | o::l,s,kw,k=>if aoz cx o then barK cl cx ops o s kw fun s kw=>regS cl cx ops l s kw k
   else opsK cx ops [o] s kw fun _ s kw=>regS cl cx ops l s kw k
def asl (ops:Array Oper) (sel:Nat->Bool) (i:Nat) (o:Oper):Bool:=
 (dR 0 ops.toList).all fun p=>Nat.beq p.1 i||(sel p.1||((p.2.after.toList.any fun e=>Region.binds .any e&&Nat.beq e.on i)||o.apart ops p.2))
def agy (cx:Cx) (ops:Array Oper) (sel:Nat->Bool) (i:Nat) (o:Oper):Bool:=
 o.guard.isNone&&((match o.op with
  | .move _=>true
  | .assign _=>true
  | .fieldAddr s _ f=>(match av s cx.ty with
    | some i=>(i.fields[f]?).isSome
    | none=>false)
  | .indexAddr _ _ _=>true
  | .nilCheck _=>true
  | .slice _ _ _ _ _=>true
  | _=>false)&&(Region.noSelect ops&&asl ops sel i o))
def kv (ms:List Nat) (i k:Nat):Bool:=(ms.getD i 0).testBit k
def zY (ops:Array Oper) (ms:List Nat) (p:Nat×Rec):List (Nat×Rec)->Bool
 | []=>true
 | q::l=>(kv ms p.1 q.1||ajB ops q.2 p.2)&&zY ops ms p l
def lX (ops:Array Oper) (ms:List Nat):List (Nat×Rec)->List (Nat×Rec)->Bool
 | _,[]=>true
 | pre,p::l=>zY ops ms p pre&&lX ops ms (pre++[p]) l
def ahX (cx:Cx) (ops:Array Oper) (ms:List Nat) (L:List (Nat×Rec)) (outs:List (Nat×Oper)):Bool:=
 lX ops ms [] L&&((L.all fun p=>p.2.o.after.toList.all fun e=>!Region.binds .any e||(Nat.blt e.on p.1&&(outs.all fun q=>!Nat.beq q.1 e.on)))&&
  (outs.all fun q=>L.all fun p=>kv ms q.1 p.1||agy cx ops (fun k=>!(outs.any fun q=>Nat.beq q.1 k) &&!(L.any fun q=>Nat.beq q.1 k &&!Nat.blt k p.1)) p.1 p.2.o))
def qd (ops:Array Oper):Bool:=(ops.toList.all fun o=>match o.op with | .defer _=>false | _=>true)&&(dR 0 ops.toList).all fun p=>p.2.after.toList.all fun e=>!Region.binds .any e||Nat.blt e.on p.1
def arV (o:Oper):Bool:=match o.op with
 | .move _=>true
 | .assign _=>true
 | .fieldAddr _ _ _=>true
 | .indexAddr _ _ _=>true
 | .nilCheck _=>true
 | .slice _ _ _ _ _=>true
 | _=>false
def regD (cl:ClK) (cx:Cx) (ops:Array Oper) (ms:List Nat):Nat->List (Nat×Oper)->St->Kw->(St->Kw->Tr)->Tr
 | 0,_,_,_,_=>.stuck 126
 | m+1,todo,s,kw,k=>match kp cx todo with
   | none=>opsK cx ops (todo.map (·.2)) s kw fun rs s' kw'=>if ahX cx ops ms ((todo.map (·.1)).zip rs) [] then k s' kw' else .stuck 70
   | some (ci,co)=>
     let A:=todo.filter fun p=>!Nat.beq p.1 ci &&!kv ms p.1 ci
     let B:=todo.filter fun p=>kv ms p.1 ci &&!Nat.beq p.1 ci
     match A.find? (fun p=>!kv ms ci p.1 &&!arV p.2) with
     | none=>opsK cx ops (A.map (·.2)) s kw fun rs s' kw'=>if ahX cx ops ms ((A.map (·.1)).zip rs) ((ci,co)::B) then
      barK cl cx ops co s' kw' fun s kw=>regD cl cx ops ms m B s kw k
       else .stuck 127
     | some _=>.stuck 127
def we (v:Option V) (id:Nat):Option (Nat×List V):=match v with
 | some (.one (.fn g))=>some (g,[.one (.yld id)])
 | some (.one (.clo g fs ps))=>some (g,fs.map capV++[.one (.yld id)]++ps.map capV)
 | _=>none
def dU (cl:ClK) (rl:Option RlK) (cx:Cx) (fuel:Nat):Code->St->Kw->(Sig->St->Kw->Tr)->Tr
 | .skip,s,kw,k=>k .normal s kw
 | .label _,s,kw,k=>k .normal s kw
 | .region _ ops draw,s,kw,k=>match kp cx (dR 0 ops.toList) with
   | none=>opsK cx ops ops.toList s kw fun rs s' kw'=>
     if draw then(if ordK ops rs 0 [] [] then k .normal s' kw' else .stuck 70) else k .normal s' kw'
   | some _=>if draw then if qd ops then regD cl cx ops (dQ ops) (ops.size+1) (dR 0 ops.toList) s kw (k .normal) else .stuck 128 else regS cl cx ops ops.toList s kw (k .normal)
 | .seq a b,s,kw,k=>match akP b cx.cuts with
   | none=>dU cl rl cx fuel a s kw fun sg s kw=>match sg with
     | .normal=>dU cl rl cx fuel b s kw k
     | sg=>k sg s kw
   | some (id,pls)=>match pls with
     | [.ask]=>dU cl rl cx fuel a s kw fun sg s kw=>match sg with
       | .normal=>.at id s
       | sg=>k sg s kw
     | pls=>match absL kw.vk.length pls (s,[]) with
       | some (hd,vks)=>.cut kw.lv kw.vk.length vks
        (dU cl rl cx fuel a s {kw with lv:=kw.lv+1} fun sg s' kw'=>match sg with
         | .normal=>ajs cx kw.lv kw.vk.length vks hd s.heap.length pls s' kw'
         | sg=>k sg s' kw')
        (dU cl rl cx fuel b hd (kw.head vks) k)
       | none=>.stuck 114
 | .cond c x y,s,kw,k=>match evS s.n s.tmps c with
   | some (.one (.bool e))=>decK e (fun t kw=>if t then dU cl rl cx fuel x s kw k else dU cl rl cx fuel y s kw k) kw
   | _=>.stuck 71
 | .block id c,s,kw,k=>dU cl rl cx fuel c s kw fun sg s kw=>match sg with
   | .exit i=>if Nat.beq i id then k .normal s kw else k (.exit i) s kw
   | sg=>k sg s kw
 | .loop c,s,kw,k=>match akP c cx.hints with
   | none=>ajy (dU cl rl cx fuel c) fuel s kw k
   | some (id,pls)=>match pls with
     | [.ask]=>.at id s
     | pls=>match absL kw.vk.length pls (s,[]),argL pls s with
       | some (hd,vks),some (θ,ex)=>
         if Mt.ok ⟨kw.vk.length,vks,θ,s.heap.length,ex,hd.heap⟩ cx kw.vk hd.tmps s then
          .loop kw.lv kw.vk.length vks (argE vks θ) (dU cl rl cx fuel c hd (kw.head vks) fun sg s' kw'=>match sg with
           | .normal=>ajs cx kw.lv kw.vk.length vks hd s.heap.length pls s' kw'
           | sg=>k sg s' kw')
         else .stuck 112
       | _,_=>.stuck 113
 | .exit id,s,kw,k=>k (.exit id) s kw
 | .ret,s,kw,k=>k .ret s kw
 | .scope c,s,kw,k=>dU cl rl cx fuel c s kw k
 | .rangeFunc f ps assign body,s,kw,k=>match rl,we (evS s.n s.tmps f) s.heap.length with
   | some rl,some (g,args)=>if Nat.blt g yB&&sq s.heap then
    rl ⟨ps,assign,body,df s.tmps.old,s.n,cx.hints,cx.cuts⟩ g args ⟨s.tmps,s.heap++[.loop ⟨.ready,none⟩]⟩ kw fun _ s' kw'=>match s'.heap[s.heap.length]? with
     | some (.loop y)=>(match y.st with
       | .busy=>.stuck 201
       | _=>if sq (s'.heap.set s.heap.length .gone) then(match y.pend with
         | none=>k .normal ⟨s'.tmps,s'.heap.set s.heap.length .gone⟩ kw'
         | some .normal=>.stuck 207
         | some sg=>k sg ⟨s'.tmps,s'.heap.set s.heap.length .gone⟩ kw') else .stuck 202)
     | _=>.stuck 203
     else .stuck 204
   | _,_=>.stuck 205
 | _,_,_,_=>.stuck 72
def Sig.exit':Sig->Exit
 | .normal=>.normal
 | .exit id=>.exit id
 | .ret=>.ret
section
variable {P:Program} {sp:Spec} {U:Env} {G:Env->E->Prop} {I:Nat->List Dt->Prop} {cx:Cx} {n:Nat} {X:List Value} {W0:Wb}
structure At (cx:Cx) (U:Env) (n:Nat) (X:List Value) (W0:Wb) (s:St) (j:J) (a:Act) (w:World):Prop where
 rel:Rel U n X W0 cx.fbs s.fs j a w
 len:s.tmps.length=n+X.length
 own:s.n=n
theorem akN {ops:Array Oper} (i:Nat) (r:Rec) (L:List Rec) (hl:ops.toList=L.map (·.o)) (hi:L[i]? =some r):ops[i]? =some r.o:=by
 rw[<-iJ,hl,jq,hi];rfl
theorem aaO {v0:Nat} {p:Pl} {x y:St×List VK} (h:absP v0 p x=some y):y.1.tmps.length=x.1.tmps.length/\y.1.n=x.1.n:=by
 unfold absP at h
 cases p<;>dsimp only at h<;>first
  | (split at h<;>first | (cases h;exact⟨rfl,rfl⟩) | cases h)
  | (rw[thm4] at h;obtain⟨_,_,rfl⟩:=h;exact⟨rfl,rfl⟩)
  | (cases h;exact⟨rfl,rfl⟩)
  | cases h
theorem ia {v0:Nat}:∀{l:List Pl} {x y:St×List VK},absL v0 l x=some y->y.1.tmps.length=x.1.tmps.length/\y.1.n=x.1.n
 | [],x,y,h=>by cases h;exact⟨rfl,rfl⟩
 | p::l,x,y,h=>by
   simp only[absL,bJ] at h
   obtain⟨z,h1,h2⟩:=h
   rw[(ia h2).1,(ia h2).2,(aaO h1).1,(aaO h1).2]
   exact⟨rfl,rfl⟩
theorem oH {U':Env} {kw:Kw} {vks:List VK} (hg:Good sp cx.sm U kw) (ha:Ag kw.vk.length U U') (hd:okDs vks (varsD U' kw.vk.length vks)):Good sp cx.sm U' (kw.head vks):=by
 refine⟨fun p hp=> ?_,?_,fun p hp=>by cases hp⟩
 ·have h1:=List.mem_filter.1 hp
  rw[<-(E.sc_eq ha p.1 (by simpa using h1.2)).2.1]
  exact hg.pc p h1.1
 ·have key:∀(vks:List VK) (n:Nat),okDs vks (varsD U' n vks)->(∀(i:Nat) k,vks[i]? =some (.int k)->inK k (U'.i (n+i))=true)/\∀(i:Nat) ks,vks[i]? =some (.list ks)->RowsIn ks (U'.l (n+i)):=by
   intro vks
   induction vks with
   | nil=>intro n _;exact⟨fun i k h=>by simp at h,fun i k h=>by simp at h⟩
   | cons x l ih=>
     intro n h
     obtain⟨h1,h2⟩:=h
     obtain⟨i1,i2⟩:=ih (n+1) h2
     refine⟨fun i k hk=> ?_,fun i ks hk=> ?_⟩
     ·cases i with
      | zero=>simp at hk;subst hk;exact h1
      | succ i=>
        have:=i1 i k (by simpa using hk)
        rwa [show n+(i+1)=n+1+i by omega]
     ·cases i with
      | zero=>simp at hk;subst hk;exact h1
      | succ i=>
        have:=i2 i ks (by simpa using hk)
        rwa [show n+(i+1)=n+1+i by omega]
  obtain⟨k1,k2⟩:=key vks _ hd
  constructor
  ·intro i k hk
   rcases aV i kw.vk.length with hlt | hge
   ·simp only[Kw.head] at hk
    rw[thm8 hlt] at hk
    rw[<-(ha i hlt).1];exact hg.vk.i i k hk
   ·simp only[Kw.head] at hk
    rw[thm9 hge] at hk
    have:=k1 _ k hk
    rwa [show kw.vk.length+(i-kw.vk.length)=i by omega] at this
  ·intro i k hk
   rcases aV i kw.vk.length with hlt | hge
   ·simp only[Kw.head] at hk
    rw[thm8 hlt] at hk
    rw[<-(ha i hlt).2.2];exact hg.vk.l i k hk
   ·simp only[Kw.head] at hk
    rw[thm9 hge] at hk
    have:=k2 _ k hk
    rwa [show kw.vk.length+(i-kw.vk.length)=i by omega] at this
def ahb (cx:Cx) (n:Nat) (X:List Value) (W0:Wb) (U:Env) (v0:Nat) (vks:List VK) (hd:St) (ds:List Dt) (a:Act) (w:World):Prop:=
 ∃j,∀U',Ag v0 U U'->varsD U' v0 vks=ds->At cx U' n X W0 hd j a w
theorem pJ {U2:Env} {v0:Nat} {vks:List VK} {θ:List E} {h0:Nat} {ex:List (Option Nat)} {hd s:St} {vk:List VK} {j:J} {a:Act} {w:World} (hok:Mt.ok ⟨v0,vks,θ,h0,ex,hd.heap⟩ cx vk hd.tmps s=true) (hv:Vk U2 vk) (hl:hd.tmps.length=n+X.length/\hd.n=n) (ha:Ag v0 U U2) (hr:At cx U2 n X W0 s j a w):
  okDs vks ((argE vks θ).D U2)/\ahb cx n X W0 U v0 vks hd ((argE vks θ).D U2) a w:=by
 obtain⟨h1,h2⟩:=abm hok hv hr.rel
 refine⟨h2,_,fun U3 h3 h4=>⟨oD hok (aqV (ha.symm.trans h3) h1 h4) hr.rel,hl.1,hl.2⟩⟩
theorem aag {U2:Env} {lv v0:Nat} {vks:List VK} {h0:Nat} {pls:List Pl} {hd s:St} {kw:Kw} {j:J} {a:Act} {w:World} (h:(ajs cx lv v0 vks hd h0 pls s kw).holds sp G U2 I) (hv:Vk U2 kw.vk) (hl:hd.tmps.length=n+X.length/\hd.n=n) (ha:Ag v0 U U2) (hr:At cx U2 n X W0 s j a w):
  ∃ds,I lv ds/\okDs vks ds/\ahb cx n X W0 U v0 vks hd ds a w:=by
 unfold ajs at h
 split at h
 ·split at h
  ·rename_i hok
   obtain⟨h1,h2⟩:=pJ hok hv hl ha hr
   exact⟨_,h,h1,h2⟩
  ·exact h.elim
 ·exact h.elim
def Tie (sp:Spec) (ry:Option RfS) (X:List Value) (W0:Wb):Prop:=W0.hw=sp.hw/\match ry with
 | none=>True
 | some r=>∃(rf:Rf) (A B:List Value),W0.rf=some rf/\rf.ps=r.ps/\rf.assign=r.assign/\rf.body=r.body/\rf.tmps.size=r.len/\X=A++(rf.tmps.toList++B)/\B.length=r.dep
theorem Tie.more {sp:Spec} {ry:Option RfS} {X:List Value} {W0:Wb} (h:Tie sp ry X W0) (L:List Value):Tie sp ry (L++X) W0:=by
 cases ry with
 | none=>exact⟨h.1,trivial⟩
 | some r=>
   obtain⟨h0,rf,A,B,h1,h2,h3,h4,h5,h6,h7⟩:=h
   exact⟨h0,rf,L++A,B,h1,h2,h3,h4,h5,by rw[h6,List.append_assoc],h7⟩
structure CallOk (P:Program) (sp:Spec) (G:Env->E->Prop) (cx:Cx) (ry:Option RfS) (cl:ClK):Prop where
 call:∀(g:Nat) (args:List V) (s:St) (kw:Kw) (k:V->St->Kw->Tr) (R:Value->World->Prop) (U:Env) (I:Nat->List Dt->Prop) (n:Nat) (X:List Value) (W0:Wb) (j:J) (a:Act) (w:World) (vals:List Value),g<yB->
  (cl g args s kw k).holds sp G U I->Good sp cx.sm U kw->At cx U n X W0 s j a w->Tie sp ry (a.tmps.toList++X) W0->vals.length=args.length->(∀(i:Nat) x,args[i]? =some x->∃u,vals[i]? =some u/\x.den U j=some u)->
  (∀v s' kw' U' I' j' w' u,(k v s' kw').holds sp G U' I'->Good sp cx.sm U' kw'->Ag kw.vk.length U U'->(∀m,m<kw.lv->I' m=I m)->kw.lv<=kw'.lv->kw.vk.length<=kw'.vk.length->v.den U' j'=some u->At cx U' n X W0 s' j' a w'->R u w')->
  (callFunc g vals.toArray).run P w=.ok (.enter g vals.toArray) w/\Calls P g vals.toArray w fun e w'=>∃u,e=.returned u/\R u w'
 yld:∀(id:Nat) (args:List V) (s:St) (kw:Kw) (k:V->St->Kw->Tr) (R:Value->World->Prop) (U:Env) (I:Nat->List Dt->Prop) (n:Nat) (X:List Value) (W0:Wb) (j:J) (a:Act) (w:World) (vals:List Value) (l:Nat),
  (cl (yB+id) args s kw k).holds sp G U I->Good sp cx.sm U kw->At cx U n X W0 s j a w->Tie sp ry X W0->j.g.y id=some l->vals.length=args.length->(∀(i:Nat) x,args[i]? =some x->∃u,vals[i]? =some u/\x.den U j=some u)->
  (∀v s' kw' U' I' j' w' u,(k v s' kw').holds sp G U' I'->Good sp cx.sm U' kw'->Ag kw.vk.length U U'->(∀m,m<kw.lv->I' m=I m)->kw.lv<=kw'.lv->kw.vk.length<=kw'.vk.length->v.den U' j'=some u->At cx U' n X W0 s' j' a w'->R u w')->
  ∃f tmps assign body,(Instr.yield l vals.toArray).run P w=.ok (.round l f tmps assign body) w/\∀ro,RoundIn (Fw ro) 0 P l f tmps assign body w fun e w'=>∃u,e=.returned u/\R u w'
def ClOk (P:Program) (sp:Spec) (G:Env->E->Prop) (cx:Cx) (ry:Option RfS) (cl:ClK) (X:List Value) (W0:Wb):Prop:=CallOk P sp G cx ry cl/\Tie sp ry X W0
structure Nx (kw kw':Kw) (U U':Env) (I I':Nat->List Dt->Prop):Prop where
 ag:Ag kw.vk.length U U'
 inv:∀m,m<kw.lv->I' m=I m
 lv:kw.lv<=kw'.lv
 vk:kw.vk.length<=kw'.vk.length
theorem Nx.refl (kw:Kw) (U:Env) (I:Nat->List Dt->Prop):Nx kw kw U U I I:=⟨.refl _ _,fun _ _=>rfl,Nat.le_refl _,Nat.le_refl _⟩
theorem Nx.of {kw kw':Kw} (h:KwGe kw' kw) (U:Env) (I:Nat->List Dt->Prop):Nx kw kw' U U I I:=⟨.refl _ _,fun _ _=>rfl,by rw[h.lv];exact Nat.le_refl _,h.vk⟩
theorem Nx.trans {a b c:Kw} {U U' U'':Env} {I I' I'':Nat->List Dt->Prop} (h:Nx a b U U' I I') (h':Nx b c U' U'' I' I''):Nx a c U U'' I I'':=
 ⟨h.ag.trans (h'.ag.mono h.vk),fun m hm=>(h'.inv m (Nat.lt_of_lt_of_le hm h.lv)).trans (h.inv m hm),Nat.le_trans h.lv h'.lv,Nat.le_trans h.vk h'.vk⟩
end
open Go
section
variable {P:Program} {sp:Spec} {U:Env} {G:Env->E->Prop} {I:Nat->List Dt->Prop} {cx:Cx} {cl:ClK} {n:Nat} {X:List Value} {W0:Wb} {ops:Array Oper} {ro:Option Nat} {ry:Option RfS}
theorem At.ev {s:St} {j:J} {a:Act} {w:World} (h:At cx U n X W0 s j a w) {x:Operand} {v:V} (hx:evS s.n s.tmps x=some v):v.den U j=some (a.eval x):=by
 refine h.rel.eval (x:=x) ?_
 have:=agB s s.le x
 rw[h.own] at this hx
 rw[this];exact hx
theorem At.le {s:St} {j:J} {a:Act} {w:World} (h:At cx U n X W0 s j a w):s.n<=s.tmps.length:=s.le
theorem kr {j:J}:∀{l:List (Option (Bool×Nat×Nat))} {vs:List Value},de j l=some vs->vs.length=(l.map capV).length/\∀(i:Nat) x,(l.map capV)[i]? =some x->∃u,vs[i]? =some u/\x.den U j=some u
 | [],vs,h=>by cases h;exact⟨rfl,fun i x hx=>by simp at hx⟩
 | c::l,vs,h=>by
   simp only[de] at h
   cases hc:ptrV j c with
   | none=>rw[hc] at h;cases h
   | some v=>
     cases hl:de j l with
     | none=>rw[hc,hl] at h;cases h
     | some us=>
       rw[hc,hl] at h
       cases h
       obtain⟨h1,h2⟩:=kr hl
       refine⟨by simp[h1],fun i x hx=> ?_⟩
       cases i with
       | zero=>
         simp only[List.map_cons,bK,bh] at hx
         subst hx
         refine⟨v,rfl,?_⟩
         match c,hc with
         | none,hc=>exact hc
         | some (true,b,o),hc=>exact hc
         | some (false,b,o),hc=>exact hc
       | succ i=>exact h2 i x (by simpa using hx)
theorem mu {j:J} {xs ys:List V} {us vs:List Value} (h1:us.length=xs.length) (h2:∀(i:Nat) x,xs[i]? =some x->∃u,us[i]? =some u/\x.den U j=some u) (h3:∀(i:Nat) x,ys[i]? =some x->∃u,vs[i]? =some u/\x.den U j=some u):
  ∀(i:Nat) x,(xs++ys)[i]? =some x->∃u,(us++vs)[i]? =some u/\x.den U j=some u:=by
 intro i x hx
 rcases aV i xs.length with hlt | hge
 ·rw[thm8 hlt] at hx
  rw[thm8 (by omega)]
  exact h2 i x hx
 ·rw[thm9 hge] at hx
  rw[thm9 (by omega),h1]
  exact h3 _ x hx
theorem ago (hcl:ClOk P sp G cx ry cl X W0) {o:Oper} {g:Nat} {args:List V} {s:St} {kw:Kw} {k:St->Kw->Tr} {j:J} {a:Act} {w:World} {vals:List Value} (hgb:g<yB) (h:(inlK cl o g args s kw k).holds sp G U I) (hg:Good sp cx.sm U kw) (hr:At cx U n X W0 s j a w)
  (hl:vals.length=args.length) (hd:∀(i:Nat) x,args[i]? =some x->∃u,vals[i]? =some u/\x.den U j=some u) {K:Act->World->Prop}
  (hK:∀s' kw' U' I' j' a' w',(k s' kw').holds sp G U' I'->Good sp cx.sm U' kw'->Nx kw kw' U U' I I'->At cx U' n X W0 s' j' a' w'->K a' w'):
  (callFunc g vals.toArray).run P w=.ok (.enter g vals.toArray) w/\Calls P g vals.toArray w fun e w'=>∃u,e=.returned u/\K (a.put o.dst u) w':=by
 refine hcl.1.call g args s kw _ (fun u w'=>K (a.put o.dst u) w') U I n X W0 j a w vals hgb h hg hr (hcl.2.more _) hl hd (fun v s' kw' U' I' j' w' u h' hg' ha hI hlv hvk hv hr'=> ?_)
 have hnx:Nx kw kw' U U' I I':=⟨ha,hI,hlv,hvk⟩
 split at h'
 ·rename_i hdst
  rw[hdst]
  exact hK s' kw' U' I' j' _ w' h' hg' hnx hr'
 ·rename_i d hdst
  split at h'
  ·rename_i hlt
   have hlt':d<s'.n:=by simpa[Nat.blt_eq] using hlt
   refine hK _ kw' U' I' j' _ w' h' hg' hnx ⟨?_,hr'.len,hr'.own⟩
   have h1:=hr'.rel.put (dst:=o.dst) hv (fun d' hd'=>by rw[hdst] at hd';cases hd';rw[<-hr'.own];exact hlt')
   rw[hdst] at h1 ⊢
   have e:(St.mk (s'.tmps.set d v) s'.heap).fs=s'.fs.put (some d) v:=by
    refine Ua.ext' (fun t=> ?_) (fun _=>rfl) (fun _=>rfl) (fun _=>rfl)
    simp only[Ua.put,St.fs,fsOf,TM.get_set s'.tmps v hlt']
    by_cases ht:d=t
    ·subst ht;simp
    ·simp[ht]
   rw[e]
   exact h1
  ·exact h'.elim
theorem aoA (hcl:ClOk P sp G cx ry cl X W0) {o:Oper} {id l:Nat} {args:List V} {s:St} {kw:Kw} {k:St->Kw->Tr} {j:J} {a:Act} {w:World} {vals:List Value} (h:(inlK cl o (yB+id) args s kw k).holds sp G U I) (hg:Good sp cx.sm U kw) (hr:At cx U n X W0 s j a w)
  (hl:vals.length=args.length) (hyl:j.g.y id=some l) (hd:∀(i:Nat) x,args[i]? =some x->∃u,vals[i]? =some u/\x.den U j=some u) {K:Act->World->Prop}
  (hK:∀s' kw' U' I' j' a' w',(k s' kw').holds sp G U' I'->Good sp cx.sm U' kw'->Nx kw kw' U U' I I'->At cx U' n X W0 s' j' a' w'->K a' w'):
  ∃f tmps assign body,(Instr.yield l vals.toArray).run P w=.ok (.round l f tmps assign body) w/\∀ro,RoundIn (Fw ro) 0 P l f tmps assign body w fun e w'=>∃u,e=.returned u/\K (a.put o.dst u) w':=by
 refine hcl.1.yld id args s kw _ (fun u w'=>K (a.put o.dst u) w') U I n X W0 j a w vals l h hg hr hcl.2 hyl hl hd (fun v s' kw' U' I' j' w' u h' hg' ha hI hlv hvk hv hr'=> ?_)
 have hnx:Nx kw kw' U U' I I':=⟨ha,hI,hlv,hvk⟩
 split at h'
 ·rename_i hdst
  rw[hdst]
  exact hK s' kw' U' I' j' _ w' h' hg' hnx hr'
 ·rename_i d hdst
  split at h'
  ·rename_i hlt
   have hlt':d<s'.n:=by simpa[Nat.blt_eq] using hlt
   refine hK _ kw' U' I' j' _ w' h' hg' hnx ⟨?_,hr'.len,hr'.own⟩
   have h1:=hr'.rel.put (dst:=o.dst) hv (fun d' hd'=>by rw[hdst] at hd';cases hd';rw[<-hr'.own];exact hlt')
   rw[hdst] at h1 ⊢
   have e:(St.mk (s'.tmps.set d v) s'.heap).fs=s'.fs.put (some d) v:=by
    refine Ua.ext' (fun t=> ?_) (fun _=>rfl) (fun _=>rfl) (fun _=>rfl)
    simp only[Ua.put,St.fs,fsOf,TM.get_set s'.tmps v hlt']
    by_cases ht:d=t
    ·subst ht;simp
    ·simp[ht]
   rw[e]
   exact h1
  ·exact h'.elim
theorem ajG {v0:Nat} {U U':Env} (h:Ag v0 U U'):Giv v0 [] [] U U':=⟨h,fun m k t hk=>by simp at hk,fun m t hk=>by simp at hk,fun m ks t hk=>by simp at hk⟩
theorem pK {y:Operand} (h:oF y=true) (a:Act):a.eval y=.slice none 0 0:=by
 unfold oF at h
 split at h
 ·rfl
 ·cases h
theorem aoo (hT:∀t i,(t,i)∈cx.ty->TIok P t i) {o:Oper} {xt yt:Nat} {x y:Operand} {id:Nat} {s:St} {kw:Kw} {k:St->Kw->Tr} {j:J} {a:Act} {w:World} (hop:o.op=.binOp .eql xt x y yt) (hy:oF y=true) (hev:evS s.n s.tmps x=some (.one (.sl id))) (h:(nilK cx o xt id s kw k).holds sp G U I) (hg:Good sp cx.sm U kw) (hr:At cx U n X W0 s j a w) {K:Act->World->Prop} {Q:Exit->Act->World->Prop}
  (hK:∀s' kw' U' I' j' a' w',(k s' kw').holds sp G U' I'->Good sp cx.sm U' kw'->Nx kw kw' U U' I I'->At cx U' n X W0 s' j' a' w'->K a' w'):o.wp P a w K Q:=by
 unfold nilK at h
 split at h
 ·rename_i r i hq hi
  split at h
  ·rename_i hc
   simp only[thm0] at hc
   obtain⟨hkd,hsl,hok⟩:=hc
   obtain⟨et,het⟩:=Option.isSome_iff_exists.1 hsl
   have hu:=(hT _ _ (an hi)).sle et het
   have hx:=hr.ev hev
   obtain⟨sv,hs,hv⟩:∃sv:SV,j.s id=some sv/\a.eval x=sv.v:=by
    simp only[V.den,C.den,thm4] at hx
    obtain⟨sv,h1,h2⟩:=hx
    exact⟨sv,h1,h2.symm⟩
   obtain⟨U',ha,hz,hh⟩:=h (if sv.a.isNone then 0 else 1) (by split<;>decide)
   have hr':At cx U' n X W0 s ((al9 s kw).J j) a w:=⟨oD hok (ajG ha) hr.rel,hr.len,hr.own⟩
   have hcond:(nilE r.l kw.vk.length).B U'=true:=by
    have hx':=hr'.ev hev
    simp only[V.den,C.den,thm4] at hx'
    obtain⟨sv',h1,h2⟩:=hx'
    obtain⟨sv2,h3,h4⟩:=hr'.rel.row id r (fA (by rw[kS];exact hq))
    rw[h1] at h3
    cases h3
    have hkd':r.kd=.sl:=by
     cases hd:r.kd with
     | sl=>rfl
     | _=>rw[hd] at hkd;cases hkd
    have h5:=h4.1 hkd'
    have h6:=h5.n
    have h7:=h5.rd.2.2.2.1
    rw[hv] at h2
    obtain⟨sa,sn,sc,sz⟩:=sv
    obtain⟨ta,tn,tc,tz⟩:=sv'
    simp only[SV.v,Value.slice.injEq] at h2
    obtain⟨rfl,rfl,rfl⟩:=h2
    simp only[nilE,E.B,E.I,hz,gG,<-h6]
    cases ta with
    | none=>
      have h8:=(h7 rfl).1
      simp only at h8
      subst h8
      simp
    | some q=>simp
   have hh':=hh hcond
   split at hh'
   ·rename_i s' hs'
    obtain⟨e1,e2,e3,_,_,_⟩:=St.app_ok hr.le hs'
    have hrun:(execOp a.eval o).run P w=.ok (.value (.bool sv.a.isNone)) w:=by
     obtain⟨sa,sn,sc,sz⟩:=sv
     have h1:=Go.Lib.run_eql_slice_nil (P:=P) w xt et sa sn sc 0 0 hu
     simp only[execOp,hop,hv,pK hy,SV.v,eqGuard,Sem.run_bind]
     exact congrArg (fun r=>Result.andThen r fun a w'=>Result.ok (Next.value a) w') h1
    refine dD hrun (hK s' _ U' I ((al9 s kw).J j) _ _ hh' (oH hg ha ⟨?_,trivial⟩) ⟨ha,fun _ _=>rfl,by simp[Kw.head],by simp[Kw.head]⟩ ⟨?_,by rw[e2.1];exact hr.len,by rw[e2.2];exact hr.own⟩)
    ·show inK .i64 (U'.i kw.vk.length)=true
     rw[hz];split<;>decide
    ·rw[e1]
     refine hr'.rel.put ?_ (fun d hd=>by rw[<-hr.own];exact e3 d hd)
     simp only[V.den,C.den,E.B,E.I,hz]
     cases sv.a<;>rfl
   ·exact hh'.elim
  ·exact h.elim
 ·exact h.elim
theorem akQ (hT:∀t i,(t,i)∈cx.ty->TIok P t i) (hcl:ClOk P sp G cx ry cl X W0) {o:Oper} {s:St} {kw:Kw} {k:St->Kw->Tr} {j:J} {a:Act} {w:World} (h:(goK cl cx o s kw k).holds sp G U I) (hg:Good sp cx.sm U kw) (hr:At cx U n X W0 s j a w) {K:Act->World->Prop} {Q:Exit->Act->World->Prop}
  (hK:∀s' kw' U' I' j' a' w',(k s' kw').holds sp G U' I'->Good sp cx.sm U' kw'->Nx kw kw' U U' I I'->At cx U' n X W0 s' j' a' w'->K a' w'):o.wpIn (Fw ro) 0 P a w K Q:=by
 unfold goK at h
 split at h
 ·rename_i xt x y yt hop
  split at h
  ·rename_i hy
   split at h
   ·rename_i id hx;exact gQ (by simp[hop]) (aoo hT hop hy hx h hg hr hK)
   ·rename_i hx
    split at h
    ·rename_i i hi
     split at h
     ·rename_i hsl
      split at h
      ·rename_i s' hs'
       obtain⟨et,het⟩:=Option.isSome_iff_exists.1 hsl
       have hu:=(hT _ _ (an hi)).sle et het
       obtain⟨e1,e2,e3,_,_,_⟩:=St.app_ok hr.le hs'
       have hv:a.eval x=.slice none 0 0:=(Option.some.inj (hr.ev hx)).symm
       have hrun:(execOp a.eval o).run P w=.ok (.value (.bool true)) w:=by
        have h1:=Go.Lib.run_eql_slice_nil (P:=P) w xt et none 0 0 0 0 hu
        simp only[execOp,hop,hv,pK hy,eqGuard,Sem.run_bind]
        exact congrArg (fun r=>Result.andThen r fun a w'=>Result.ok (Next.value a) w') h1
       refine gQ (by simp[hop]) (dD hrun (hK s' kw U I j _ w h hg (.of (.refl _) _ _) ⟨?_,by rw[e2.1];exact hr.len,by rw[e2.2];exact hr.own⟩))
       rw[e1]
       exact hr.rel.put rfl (fun d hd=>by rw[<-hr.own];exact e3 d hd)
      ·exact h.elim
     ·exact h.elim
    ·exact h.elim
   ·exact h.elim
  ·exact h.elim
 ·rename_i c hop
  split at h
  ·rename_i f hc
   have run:∀(g:Nat) (vals:List Value),(execOp a.eval o).run P w=(callFunc g vals.toArray).run P w->((callFunc g vals.toArray).run P w=.ok (.enter g vals.toArray) w/\Calls P g vals.toArray w fun e w'=>∃u,e=.returned u/\K (a.put o.dst u) w')->o.wpIn (Fw ro) 0 P a w K Q:=by
    intro g vals h6 ⟨h7,h8⟩
    refine gQ (by simp[hop]) ?_
    unfold Oper.wp
    rw[h6,h7]
    show Calls P g _ w _
    refine h8.mono ?_
    rintro e' w' ⟨u,rfl,hk⟩
    exact hk
   split at h
   ·rename_i g args hf hl
    split at h<;>first | exact h.elim | skip
    rename_i hgb
    have hgb:g<yB:=by simpa[Nat.blt_eq] using hgb
    obtain⟨h1,h2⟩:=gJ (U:=U) (j:=j) (a:=a) hl (fun x _ v hv=>hr.ev hv)
    have h4:=hr.ev hf
    have h5:a.eval f=.func (.func g) #[] #[]:=(Option.some.inj h4).symm
    refine run g (c.args.toList.map a.eval) ?_ (ago hcl hgb h hg hr (by simpa using h2) (fun i x hx=> ?_) hK)
    ·have h7:c.args.map a.eval=(c.args.toList.map a.eval).toArray:=by rw[<-dA]
     rw[<-h7]
     simp only[execOp,hop,resolve,hc,h5,Deferred.ofValue,Sem.run_bind,Sem.run_pure,Result.andThen_ok,invoke,Array.empty_append,Array.append_empty]
    ·have hlt:i<(c.args.toList.map a.eval).length:=by
      have:=(bR.1 hx).1
      rw[h2];exact this
     exact⟨_,thm6 hlt,h1 i x _ hx (thm6 hlt)⟩
   ·rename_i g fs ps args hf hl
    split at h<;>first | exact h.elim | skip
    rename_i hgb
    have hgb:g<yB:=by simpa[Nat.blt_eq] using hgb
    obtain⟨h1,h2⟩:=gJ (U:=U) (j:=j) (a:=a) hl (fun x _ v hv=>hr.ev hv)
    obtain⟨x,y,hx,hy,h5⟩:=dS (show cloV g (de j fs) (de j ps)=some (a.eval f) from hr.ev hf)
    obtain⟨e1,e2⟩:=kr (U:=U) hx
    obtain⟨e3,e4⟩:=kr (U:=U) hy
    have e5:∀(i:Nat) z,args[i]? =some z->∃u,(c.args.toList.map a.eval)[i]? =some u/\z.den U j=some u:=fun i z hz=>by
     have hlt:i<(c.args.toList.map a.eval).length:=by
      have:=(bR.1 hz).1
      rw[h2];exact this
     exact⟨_,thm6 hlt,h1 i z _ hz (thm6 hlt)⟩
    refine run g (x++c.args.toList.map a.eval++y) ?_ (ago hcl hgb h hg hr (by simp only[eA,e1,e3,h2]) (mu (by simp only[eA,e1,h2]) (mu e1 e2 e5) e4) hK)
    have h7:c.args.map a.eval=(c.args.toList.map a.eval).toArray:=by rw[<-dA]
    have h8:(x++c.args.toList.map a.eval++y).toArray=x.toArray++c.args.map a.eval++y.toArray:=by rw[h7];simp
    rw[h8]
    simp only[execOp,hop,resolve,hc,h5,Deferred.ofValue,Sem.run_bind,Sem.run_pure,Result.andThen_ok,invoke]
   ·rename_i id args hf hl
    obtain⟨h1,h2⟩:=gJ (U:=U) (j:=j) (a:=a) hl (fun x _ v hv=>hr.ev hv)
    have h4:(j.g.y id).map (fun l=>Value.func (.yield l) #[] #[])=some (a.eval f):=hr.ev hf
    rw[thm4] at h4
    obtain⟨l,hyl,h5⟩:=h4
    obtain⟨f',tmps',assign',body',h6,h7⟩:=aoA hcl h hg hr (vals:=c.args.toList.map a.eval) (by simpa using h2) hyl (fun i x hx=>by
     have hlt:i<(c.args.toList.map a.eval).length:=by
      have:=(bR.1 hx).1
      rw[h2];exact this
     exact⟨_,thm6 hlt,h1 i x _ hx (thm6 hlt)⟩) hK
    have h8:c.args.map a.eval=(c.args.toList.map a.eval).toArray:=by rw[<-dA]
    refine⟨fun _ _=>trivial,?_⟩
    rw[Oper.semAt_eq _ _ _ (by simp[hop])]
    have h9:(execOp a.eval o).run P w=.ok (.round l f' tmps' assign' body') w:=by
     rw[<-h6,<-h8]
     simp only[execOp,hop,resolve,hc,<-h5,Deferred.ofValue,Sem.run_bind,Sem.run_pure,Result.andThen_ok,invoke,Array.empty_append,Array.append_empty]
    rw[h9]
    refine⟨aav,(h7 ro).mono ?_⟩
    rintro e' w' ⟨u,rfl,hk⟩
    exact hk
   ·exact h.elim
  ·exact h.elim
 ·rename_i x hop
  split at h
  ·rename_i id mid hx
   exact h.elim
  ·exact h.elim
 ·exact h.elim
theorem akC {rs:List Rec} {o:Oper} (h:rs.map (·.o)=[o]):∃r,rs=[r]:=by
 cases rs with
 | nil=>cases h
 | cons r l=>cases l with
   | nil=>exact⟨r,rfl⟩
   | cons=>simp at h
theorem yN {o:Oper} {i:Nat} (ho:ops[i]? =some o) {s:St} {kw:Kw} {k:St->Kw->Tr} {j:J} {a:Act} {w:World} (h:(ahQ o s kw k).holds sp G U I) (hg:Good sp cx.sm U kw) (hr:At cx U n X W0 s j a w) (hw:Region.wanted o (yielded ops a.tmps)=false)
  {K:Act->World->Prop} {Q:Exit->Act->World->Prop}
  (hK:∀s' kw' U' I' j' a' w',(k s' kw').holds sp G U' I'->Good sp cx.sm U' kw'->Nx kw kw' U U' I I'->At cx U' n X W0 s' j' a' w'->K a' w'):wpOpIn (Fw ro) 0 P ops Q i K a w:=by
 unfold ahQ at h
 split at h
 ·rename_i s' hs'
  obtain⟨e1,e2,e3,_,_,_⟩:=St.app_ok hr.le hs'
  unfold wpOpIn
  simp only[ho,hw]
  refine⟨fun _ _=>trivial,hK s' kw U I j _ w h hg (.refl _ _ _) ⟨?_,by rw[e2.1];exact hr.len,by rw[e2.2];exact hr.own⟩⟩
  rw[e1]
  exact hr.rel.put rfl (fun d hd=>by rw[<-hr.own];exact e3 d hd)
 ·exact h.elim
theorem ag5 (hT:∀t i,(t,i)∈cx.ty->TIok P t i) (hS:∀s∈cx.sm,SmOk P sp s) (hkeys:∀s∈cx.sm,∀s'∈cx.sm,s.key=s'.key->s=s') (hcl:ClOk P sp G cx ry cl X W0) {o:Oper} {i:Nat} (ho:ops[i]? =some o) {s:St} {kw:Kw} {k:St->Kw->Tr} {j:J} {a:Act} {w:World}
  (h:(barK cl cx ops o s kw k).holds sp G U I) (hg:Good sp cx.sm U kw) (hr:At cx U n X W0 s j a w) {K:Act->World->Prop} {Q:Exit->Act->World->Prop}
  (hK:∀s' kw' U' I' j' a' w',(k s' kw').holds sp G U' I'->Good sp cx.sm U' kw'->Nx kw kw' U U' I I'->At cx U' n X W0 s' j' a' w'->K a' w'):wpOpIn (Fw ro) 0 P ops Q i K a w:=by
 unfold barK at h
 split at h
 ·obtain⟨rs,s',kw',h1,g1,l1,h2,h3,h4,h5⟩:=kY (P:=P) (base:=W0.heap.size) hT hS hkeys hcl.2.1.symm [o] s kw _ h hg hr.le
  obtain⟨r,rfl⟩:=akC h2
  have e2:r.o=o:=by simpa using h2
  have h6:=h5 0 r rfl
  rw[hr.own] at h6
  subst e2
  refine jX hr.rel h6 ho (fun j' a' w' h'=>hK s' kw' U I j' a' w' h1 g1 (.of l1 _ _) ⟨?_,by rw[h4.1];exact hr.len,by rw[h4.2];exact hr.own⟩)
  rw[h3]
  exact h'
 ·split at h
  ·rename_i hgd
   unfold wpOpIn
   simp only[ho,Region.wanted,hgd,if_true]
   exact akQ hT hcl h hg hr hK
  ·rename_i g b hgd
   have tmpAt:∀v,((ops[g]?).bind (·.dst)).bind (fun t=>if Nat.blt t s.n then s.tmps.get? t else none)=some v->∃t,(ops[g]?).bind (·.dst)=some t/\t<n/\s.fs.tmp t=v:=by
    intro v h
    rw[bJ] at h
    obtain⟨t,h1,h2⟩:=h
    split at h2
    ·rename_i ht
     refine⟨t,h1,?_,by simp[St.fs,fsOf,h2]⟩
     rw[<-hr.own]
     simpa[Nat.blt_eq] using ht
    ·cases h2
   split at h
   ·rename_i e he
    obtain⟨t,h1,h2,h3⟩:=tmpAt _ he
    obtain⟨h4,-⟩:=kA hr.rel h1 h2
    have h5:=h4 e h3
    obtain⟨kw1,h6,g6,v6,l6⟩:=aY _ _ _ h hg
    have hnx:Nx kw kw1 U U I I:=.of l6 _ _
    have hw:Region.wanted o (yielded ops a.tmps)=(e.B U==b):=by
     simp only[Region.wanted,hgd,h5]
     cases e.B U<;>cases b<;>rfl
    split at h6
    ·rename_i hb
     unfold wpOpIn
     simp only[ho,hw,hb,if_true]
     exact(akQ hT hcl h6 g6 hr (fun s' kw' U' I' j' a' w' q1 q2 q3 q4=>hK s' kw' U' I' j' a' w' q1 q2 (hnx.trans q3) q4))
    ·rename_i hb
     exact yN ho h6 g6 hr (by rw[hw];simpa using hb) (fun s' kw' U' I' j' a' w' q1 q2 q3 q4=>hK s' kw' U' I' j' a' w' q1 q2 (hnx.trans q3) q4)
   ·rename_i he
    obtain⟨t,h1,h2,h3⟩:=tmpAt _ he
    obtain⟨-,h4⟩:=kA hr.rel h1 h2
    refine yN ho h hg hr ?_ hK
    simp only[Region.wanted,hgd,h4 h3]
    rfl
   ·exact h.elim
theorem afK (hT:∀t i,(t,i)∈cx.ty->TIok P t i) (hS:∀s∈cx.sm,SmOk P sp s) (hkeys:∀s∈cx.sm,∀s'∈cx.sm,s.key=s'.key->s=s') (hcl:ClOk P sp G cx ry cl X W0) {Q:Exit->Act->World->Prop}:
  ∀(l:List Oper) (i:Nat),(∀(m:Nat) o,l[m]? =some o->ops[i+m]? =some o)->∀(s:St) (kw:Kw) (k:St->Kw->Tr) (U:Env) (I:Nat->List Dt->Prop) (j:J) (a:Act) (w:World),(regS cl cx ops l s kw k).holds sp G U I->Good sp cx.sm U kw->At cx U n X W0 s j a w->
   (∀s' kw' U' I' j' a' w',(k s' kw').holds sp G U' I'->Good sp cx.sm U' kw'->Nx kw kw' U U' I I'->At cx U' n X W0 s' j' a' w'->Q .normal a' w')->wpOpsIn (Fw ro) 0 P ops Q (List.range' i l.length) a w
 | [],i,hi,s,kw,k,U,I,j,a,w,h,hg,hr,hK=>by
   simp only[List.length_nil,List.range'_zero,wpOpsIn]
   exact hK s kw U I j a w h hg (.refl _ _ _) hr
 | o::l,i,hi,s,kw,k,U,I,j,a,w,h,hg,hr,hK=>by
   simp only[List.length_cons,List.range'_succ]
   rw[wpOpsIn_cons]
   have ho:ops[i]? =some o:=hi 0 o rfl
   have tail:∀s' kw' U' I' j' a' w',(regS cl cx ops l s' kw' k).holds sp G U' I'->Good sp cx.sm U' kw'->Nx kw kw' U U' I I'->At cx U' n X W0 s' j' a' w'->wpOpsIn (Fw ro) 0 P ops Q (List.range' (i+1) l.length) a' w':=
    fun s' kw' U' I' j' a' w' q1 q2 q3 q4=>afK hT hS hkeys hcl l (i+1) (fun m o hm=>by rw[Nat.add_assoc,Nat.add_comm 1 m];exact hi (m+1) o (by simpa using hm)) s' kw' k U' I' j' a' w' q1 q2 q4
     (fun s2 kw2 U2 I2 j2 a2 w2 p1 p2 p3 p4=>hK s2 kw2 U2 I2 j2 a2 w2 p1 p2 (q3.trans p3) p4)
   simp only[regS] at h
   split at h
   ·exact ag5 hT hS hkeys hcl ho h hg hr tail
   ·obtain⟨rs,s',kw',h1,g1,l1,h2,h3,h4,h5⟩:=kY (P:=P) (base:=W0.heap.size) hT hS hkeys hcl.2.1.symm [o] s kw _ h hg hr.le
    obtain⟨r,rfl⟩:=akC h2
    have e2:r.o=o:=by simpa using h2
    have h6:=h5 0 r rfl
    rw[hr.own] at h6
    subst e2
    refine jX hr.rel h6 ho (fun j' a' w' h'=>tail s' kw' U I j' a' w' h1 g1 (.of l1 _ _) ⟨?_,by rw[h4.1];exact hr.len,by rw[h4.2];exact hr.own⟩)
    rw[h3]
    exact h'
end
section
variable {P:Program} {sp:Spec} {U:Env} {G:Env->E->Prop} {I:Nat->List Dt->Prop} {cx:Cx} {cl:ClK} {n:Nat} {X:List Value} {W0:Wb} {ro:Option Nat} {ry:Option RfS} {ops:Array Oper}
theorem mt:∀(l:List Oper) (k i:Nat) (p:Nat×Oper),(dR k l)[i]? =some p->p.1=k+i/\l[i]? =some p.2
 | [],k,i,p,h=>by simp[dR] at h
 | o::l,k,i,p,h=>by
   cases i with
   | zero=>simp only[dR,bK,bh] at h;subst h;exact⟨rfl,rfl⟩
   | succ i=>
     have:=mt l (k+1) i p (by simpa[dR] using h)
     exact⟨by omega,by simpa using this.2⟩
theorem oL:∀(l:List Oper) (k:Nat),(dR k l).length=l.length
 | [],_=>rfl
 | _::l,k=>by simp[dR,oL l (k+1)]
theorem oM:∀(l:List Oper) (k:Nat),(dR k l).map (·.1)=List.range' k l.length
 | [],_=>rfl
 | _::l,k=>by simp[dR,oM l (k+1),List.range'_succ]
theorem ajw {k:Nat} {o:Oper} (h:ops[k]? =some o):(k,o)∈dR 0 ops.toList:=by
 have hk:k<ops.toList.length:=by have:=(ey.1 h).1;simpa using this
 have hl:k<(dR 0 ops.toList).length:=by rw[oL];exact hk
 have h1:=thm6 hl
 obtain⟨e1,e2⟩:=mt _ _ _ _ h1
 have e3:ops.toList[k]? =some o:=by rw[iJ];exact h
 rw[e3] at e2
 have:(dR 0 ops.toList)[k]=(k,o):=Prod.ext (by omega) (Option.some.inj e2).symm
 rw[<-this]
 exact List.getElem_mem hl
theorem agE {p:Nat×Oper} (h:p∈dR 0 ops.toList):ops[p.1]? =some p.2:=by
 obtain⟨i,hi⟩:=List.getElem?_of_mem h
 obtain⟨h1,h2⟩:=mt _ 0 i p hi
 rw[h1,bn,<-iJ];exact h2
theorem vG {l:List (Nat×Oper)} {p:Nat×Oper} (h:kp cx l=some p):p∈l:=by
 induction l with
 | nil=>cases h
 | cons q l ih=>
   rw[kp] at h
   by_cases hb:aoz cx q.2=true
   ·rw[if_pos hb] at h
    rw[<-Option.some.inj h]
    exact bA
   ·rw[if_neg hb] at h
    exact bZ _ (ih h)
theorem vz:∀(l:List Oper) (ms:List Nat),(l.foldl (fun ms o=>ms++[fN o ms]) ms).length=ms.length+l.length
 | [],ms=>rfl
 | o::l,ms=>by simp only[List.foldl_cons,vz l,eA,List.length_cons,List.length_nil];omega
theorem aak:∀(l:List Oper) (ms:List Nat) (i:Nat),(i<ms.length->(l.foldl (fun ms o=>ms++[fN o ms]) ms)[i]? =ms[i]?)/\
  ∀o,l[i]? =some o->∃pre,pre.length=ms.length+i/\(∀k,k<pre.length->(l.foldl (fun ms o=>ms++[fN o ms]) ms)[k]? =pre[k]?)/\(l.foldl (fun ms o=>ms++[fN o ms]) ms)[ms.length+i]? =some (fN o pre)
 | [],ms,i=>⟨fun _=>rfl,fun o h=>by simp at h⟩
 | o::l,ms,i=>by
   simp only[List.foldl_cons]
   have ih:=aak l (ms++[fN o ms])
   refine⟨fun h=>by rw[(ih i).1 (by simp;omega),thm8 h],fun o' h=> ?_⟩
   cases i with
   | zero=>
     simp only[bK,bh] at h
     subst h
     refine⟨ms,rfl,fun k hk=>by rw[(ih k).1 (by simp;omega),thm8 hk],?_⟩
     rw[Nat.add_zero,(ih ms.length).1 (by simp),thm9 (Nat.le_refl _)]
     simp
   | succ i=>
     obtain⟨pre,h1,h2,h3⟩:=(ih i).2 o' (by simpa using h)
     simp only[eA,List.length_cons,List.length_nil] at h1 h3
     exact⟨pre,by omega,h2,by rw[show ms.length+(i+1)=ms.length+(0+1)+i by omega];exact h3⟩
theorem gH:∀(i k:Nat),kv (dQ ops) i k=true->ahc ops k i:=by
 intro i
 induction i using Nat.strongRecOn with
 | _ i ih=>
   intro k hk sel hc hd
   unfold kv at hk
   cases ho:ops.toList[i]? with
   | none=>
     have hge:=List.getElem?_eq_none_iff.1 ho
     rw[cN,bB (by unfold dQ;rw[vz];simp at hge ⊢;omega)] at hk
     simp at hk
   | some o=>
     obtain⟨pre,h1,h2,h3⟩:=(aak ops.toList [] i).2 o ho
     simp only[List.length_nil,bn] at h1 h3
     rw[cN,show(dQ ops)[i]? =some (fN o pre) from h3] at hk
     have ho':ops[i]? =some o:=by rw[<-iJ];exact ho
     rcases sA _ 0 hk with h4 | ⟨e,h4,h5,h6⟩
     ·simp at h4
     ·have h4':e∈o.after:=by simpa using h4
      have hs:=hd o ho' e h4' h5
      rcases h6 with rfl | h6
      ·exact hs
      ·have hlt:e.on<pre.length:=by
        rcases aV e.on pre.length with h7 | h7
        ·exact h7
        ·rw[cN,bB h7] at h6
         simp at h6
       have h7:kv (dQ ops) e.on k=true:=by
        unfold kv
        rw[cN,show(dQ ops)[e.on]? =pre[e.on]? from h2 e.on hlt,<-cN]
        exact h6
       exact ih e.on (by omega) k h7 sel hc (fun o' ho2 e' he' hb'=>hc e.on o' ho2 hs e' he' hb')
theorem ajH (hT:∀t i,(t,i)∈cx.ty->TIok P t i) {sel sel':Nat->Bool} {i:Nat} {o:Oper} (h:agy cx ops sel i o=true) (hsel:∀k,k<ops.size->sel k=true->k≠i->sel' k=true):Float P ops sel' i o:=by
 simp only[agy,thm0] at h
 obtain⟨h1,h2,h3,h4⟩:=h
 refine⟨fun a w K hw=> ?_,by simpa using h1,h3,fun k ok hk hne hs hno=> ?_⟩
 rotate_left
 ·have hkl:k<ops.size:=(ey.1 hk).1
  have hm:(k,ok)∈dR 0 ops.toList:=ajw hk
  have h5:=thm7.1 h4 (k,ok) hm
  simp only[bG] at h5
  rcases h5 with h5 | h5 | h5 | h5
  ·exact absurd (thm1 h5) hne
  ·rw[hsel k hkl h5 hne] at hs;cases hs
  ·obtain⟨e,he,hb⟩:=List.any_eq_true.1 h5
   rw[thm0] at hb
   exact absurd (thm1 hb.2) (hno e (by simpa using he) hb.1)
  ·exact h5
 split at h2
 ·rename_i x hop;exact ph (.inl hop) a
 ·rename_i x hop;exact ph (.inr hop) a
 ·rename_i s x f hop
  split at h2
  ·rename_i ti hti
   obtain⟨p,hp⟩:=Option.isSome_iff_exists.1 h2
   exact wq hop (hT _ _ (an hti)) (off:=p.1) (ft:=p.2) hp hw
  ·cases h2
 ·rename_i t x y hop;exact wo hop hw
 ·rename_i x hop;exact ada hop hw
 ·rename_i t x l h' m hop;exact wm hop hw
 ·cases h2
theorem afT {ms:List Nat} {p:Nat×Rec} {l:List (Nat×Rec)} (h:zY ops ms p l=true) (q:Nat×Rec) (hq:q∈l):kv ms p.1 q.1=true\/Indep ops q.2 p.2:=by
 induction l with
 | nil=>cases hq
 | cons x l ih=>
   rw[zY,thm0,bG] at h
   rcases List.mem_cons.1 hq with e | hq
   ·rw[e]
    exact h.1.imp id aaq
   ·exact ih h.2 hq
theorem mI {ms:List Nat}:∀{l pre:List (Nat×Rec)},lX ops ms pre l=true->∀(m q:Nat) x r,m<q->pre.length<=q->(pre++l)[m]? =some x->(pre++l)[q]? =some r->kv ms r.1 x.1=true\/Indep ops x.2 r.2
 | [],pre,_,m,q,x,r,hm,hq,hx,hr=>by rw[List.append_nil,bB hq] at hr;cases hr
 | p::l,pre,h,m,q,x,r,hm,hq,hx,hr=>by
   simp only[lX,thm0] at h
   rcases aV pre.length q with h1 | h1
   ·exact mI h.2 m q x r hm (by simp;omega) (by simpa using hx) (by simpa using hr)
   ·have:q=pre.length:=by omega
    subst this
    rw[thm9 (Nat.le_refl _)] at hr
    simp only[Nat.sub_self,bK,bh] at hr
    subst hr
    rw[thm8 hm] at hx
    exact afT h.1 x (ez hx)
theorem abY:∀{A:List (Nat×Oper)} {rs:List Rec},rs.map (·.o)=A.map (·.2)->∀(m:Nat) p,((A.map (·.1)).zip rs)[m]? =some p->A[m]? =some (p.1,p.2.o)/\rs[m]? =some p.2
 | [],rs,_,m,p,hp=>by simp at hp
 | a::A,[],h,m,p,hp=>by simp at h
 | a::A,r::rs,h,m,p,hp=>by
   simp only[List.map_cons,thm5] at h
   cases m with
   | zero=>
     simp only[List.map_cons,List.zip_cons_cons,bK,bh] at hp
     subst hp
     exact⟨by rw[h.1];rfl,rfl⟩
   | succ m=>exact abY h.2 m p (by simpa using hp)
theorem wd:∀{A:List (Nat×Oper)} {rs:List Rec},rs.map (·.o)=A.map (·.2)->((A.map (·.1)).zip rs).map (·.1)=A.map (·.1)
 | [],rs,_=>by simp
 | a::A,[],h=>by simp at h
 | a::A,r::rs,h=>by
   simp only[List.map_cons,thm5] at h
   simp[wd h.2]
theorem qi:∀{A:List (Nat×Oper)} {rs:List Rec} (F:Ua),rs.map (·.o)=A.map (·.2)->∀m,o7 (((A.map (·.1)).zip rs).take m) F=full (rs.take m) F
 | [],[],F,_,m=>by simp[o7,full]
 | [],r::rs,F,h,m=>by simp at h
 | a::A,[],F,h,m=>by simp at h
 | a::A,r::rs,F,h,m=>by
   simp only[List.map_cons,thm5] at h
   cases m with
   | zero=>rfl
   | succ m=>
     simp only[List.map_cons,List.zip_cons_cons,List.take_succ_cons,o7,full,List.foldl_cons]
     exact qi (F.rec' r) h.2 m
theorem aoT (h:qd ops=true) {i:Nat} {o:Oper} (ho:ops[i]? =some o):∀e∈o.after,Region.binds .any e=true->e.on<i:=by
 intro e he hb
 have hm:(i,o)∈dR 0 ops.toList:=by
  have hlt:=(ey.1 ho).1
  have:i<(dR 0 ops.toList).length:=by rw[oL];simpa using hlt
  have h1:=thm6 this
  obtain⟨h2,h3⟩:=mt _ 0 i _ h1
  rw[<-iJ] at ho
  rw[ho] at h3
  have:(dR 0 ops.toList)[i]=(i,o):=Prod.ext (by rw[h2,bn]) (Option.some.inj h3).symm
  rw[<-this];exact List.getElem_mem _
 unfold qd at h
 rw[thm0] at h
 have:=thm7.1 (thm7.1 h.2 _ hm) e (by simpa using he)
 simpa[hb,Nat.blt_eq] using this
theorem abk (h:qd ops=true) (j:Nat) (o:Oper) (c:Call) (ho:ops[j]? =some o):o.op≠.defer c:=by
 unfold qd at h
 rw[thm0] at h
 have:=thm7.1 h.1 o (by rw[<-iJ] at ho;exact ez ho)
 intro e
 rw[e] at this
 cases this
theorem an5 (hT:∀t i,(t,i)∈cx.ty->TIok P t i) (hS:∀s∈cx.sm,SmOk P sp s) (hkeys:∀s∈cx.sm,∀s'∈cx.sm,s.key=s'.key->s=s') (hcl:ClOk P sp G cx ry cl X W0) (hb:qd ops=true) {Q:Exit->Act->World->Prop} (hQ:∀c a w,¬Q (.panic c) a w):
  ∀(m:Nat) (todo:List (Nat×Oper)) (s:St) (kw:Kw) (k:St->Kw->Tr) (U:Env) (I:Nat->List Dt->Prop) (listed:Array Bool) (j:J) (a:Act) (w:World),(regD cl cx ops (dQ ops) m todo s kw k).holds sp G U I->Good sp cx.sm U kw->At cx U n X W0 s j a w->
   (∀p∈todo,ops[p.1]? =some p.2)->(todo.map (·.1)).Nodup->listed.size=ops.size->fh ops (fun i=>listed.getD i false)->(∀i,i<ops.size->(listed.getD i false=false↔∃p∈todo,p.1=i))->
   (∀s' kw' U' I' j' a' w',(k s' kw').holds sp G U' I'->Good sp cx.sm U' kw'->Nx kw kw' U U' I I'->At cx U' n X W0 s' j' a' w'->Q .normal a' w')->∀fuel,cnt ops listed<=fuel->wpAnyIn (Fw ro) 0 P .any ops Q fuel listed a w:=by
 intro m
 induction m with
 | zero=>intro todo s kw k U I listed j a w h;exact h.elim
 | succ m ih=>
   intro todo s kw k U I listed j a w h hg hr hop hnd hsz hc hun hK fuel hf
   have part:∀(A:List (Nat×Oper)) (outs:List (Nat×Oper)) (rs:List Rec) (s':St) (kw':Kw),(∀p∈A,p∈todo)->(A.map (·.1)).Nodup->(∀p∈todo,p∈A\/∃q∈outs,q.1=p.1)->
    KwGe kw' kw->rs.map (·.o)=A.map (·.2)->s'.fs=full rs s.fs->(s'.tmps.length=s.tmps.length/\s'.n=s.n)->(∀(m:Nat) r,rs[m]? =some r->RecOk P W0.hw U s.n W0.heap.size cx.fbs ops r (full (rs.take m) s.fs))->ahX cx ops (dQ ops) ((A.map (·.1)).zip rs) outs=true->
    (∀(listed':Array Bool) j' a' w',listed'.size=ops.size->fh ops (fun i=>listed'.getD i false)->(∀i,listed'.getD i false=true↔(listed.getD i false=true\/∃p∈A,p.1=i))->At cx U n X W0 s' j' a' w'->∀fuel,cnt ops listed'<=fuel->wpAnyIn (Fw ro) 0 P .any ops Q fuel listed' a' w')->
    wpAnyIn (Fw ro) 0 P .any ops Q fuel listed a w:=by
    intro A outs rs s' kw' hA hndA hcov hkw h2 h3 h4 h5 hseg hend
    simp only[ahX,thm0] at hseg
    obtain⟨g1,g2,g3⟩:=hseg
    have memL:∀p,p∈(A.map (·.1)).zip rs->(p.1,p.2.o)∈A:=fun p hp=>by
     obtain⟨i,hi⟩:=List.getElem?_of_mem hp
     exact ez (abY h2 i p hi).1
    have idxL:∀i,(∃p∈A,p.1=i)->∃p∈(A.map (·.1)).zip rs,p.1=i:=fun i ⟨p,hp,e⟩=>by
     have:i∈((A.map (·.1)).zip rs).map (·.1):=by rw[wd h2];exact List.mem_map.2 ⟨p,hp,e⟩
     obtain⟨q,hq,e2⟩:=List.mem_map.1 this
     exact⟨q,hq,e2⟩
    refine ama (fb:=cx.fbs) (n:=n) (X:=X) (W0:=W0) (U:=U) (F0:=s.fs) (L:=(A.map (·.1)).zip rs) (base:=fun i=>listed.getD i false) hQ (abk hb) (fun p hp=>hop _ (hA _ (memL p hp))) (by rw[wd h2];exact hndA) (fun i p hp=> ?_) (fun i q x r hiq hx hq=> ?_) (fun p hp e he hbd=> ?_) (fun i hi hbase hnot p hp=> ?_) (fun listed' j' a' w' hs' hc' hl' hrel=> ?_)
     _ listed j a w (Nat.le_refl _) hsz hc (fun i hi=>.inl hi) (fun i hi=>hi) ?_ fuel hf
    ·rw[qi s.fs h2]
     have:=h5 i p.2 (abY h2 i p hp).2
     rw[hr.own] at this
     exact this
    ·rcases mI g1 i q x r hiq (Nat.zero_le _) (by simpa using hx) (by simpa using hq) with h6 | h6
     ·exact .inr (gH _ _ h6)
     ·exact .inl h6
    ·have h6:=thm7.1 (thm7.1 g2 p hp) e (by simpa using he)
     simp only[hbd,Bool.not_true,Bool.false_or,thm0,Nat.blt_eq] at h6
     refine⟨h6.1,?_⟩
     cases hbl:listed.getD e.on false with
     | true=>exact .inl rfl
     | false=>
       right
       have hpl:=(ey.1 (hop _ (hA _ (memL p hp)))).1
       obtain⟨q,hq,e1⟩:=(hun e.on (Nat.lt_trans h6.1 hpl)).1 hbl
       rcases hcov q hq with h7 | ⟨q2,h7,e2⟩
       ·exact idxL _ ⟨q,h7,e1⟩
       ·exfalso
        have:=thm7.1 h6.2 q2 h7
        rw[e2,e1] at this
        simp at this
    ·obtain⟨q,hq,e1⟩:=(hun i hi).1 hbase
     rcases hcov q hq with h7 | ⟨q2,h7,e2⟩
     ·exfalso
      obtain⟨x,hx,ex⟩:=idxL i ⟨q,h7,e1⟩
      exact hnot x hx ex
     ·have h8:=thm7.1 (thm7.1 g3 q2 h7) p hp
      simp only[bG] at h8
      rw[e2,e1] at h8
      rcases h8 with h8 | h8
      ·exact .inr (gH _ _ h8)
      ·refine .inl (ajH hT h8 fun k hk hsk hne=> ?_)
       simp only[thm0,Bool.not_eq_true',List.any_eq_false,thm0] at hsk
       show(listed.getD k false||_)=true
       cases hlk:listed.getD k false with
       | true=>rfl
       | false=>
         obtain⟨q3,hq3,e3⟩:=(hun k hk).1 hlk
         rcases hcov q3 hq3 with h9 | ⟨q4,h9,e4⟩
         ·obtain⟨x,hx,ex⟩:=idxL k ⟨q3,h9,e3⟩
          have:=hsk.2 x hx
          rw[Bool.false_or,List.any_eq_true]
          refine⟨x,hx,?_⟩
          rw[ex] at this ⊢
          simpa using this
         ·have:=hsk.1 q4 h9
          rw[e4,e3] at this
          simp at this
    ·refine hend listed' j' a' w' hs' hc' (fun i=>⟨fun h=> ?_,fun h=> ?_⟩) ⟨?_,by rw[h4.1];exact hr.len,by rw[h4.2];exact hr.own⟩
     ·rcases(hl' i).1 h with h | ⟨p,hp,e⟩
      ·exact .inl h
      ·exact .inr ⟨_,memL p hp,e⟩
     ·rcases h with h | h
      ·exact(hl' i).2 (.inl h)
      ·exact(hl' i).2 (.inr (idxL i h))
     ·rw[h3]
      have:=qi s.fs h2 rs.length
      rw[List.take_of_length_le (by rw[List.length_zip];omega),List.take_of_length_le (Nat.le_refl _)] at this
      rw[<-this];exact hrel
    ·rw[pC]
     ·exact hr.rel
     ·intro p hp
      have hp':=hA _ (memL p hp)
      exact(hun p.1 (ey.1 (hop _ hp')).1).2 ⟨_,hp',rfl⟩
   simp only[regD] at h
   split at h
   ·
    obtain⟨rs,s',kw',h1,g1,l1,h2,h3,h4,h5⟩:=kY (P:=P) (base:=W0.heap.size) hT hS hkeys hcl.2.1.symm (todo.map (·.2)) s kw _ h hg hr.le
    split at h1
    ·rename_i hseg
     refine part todo [] rs s' kw' (fun p hp=>hp) hnd (fun p hp=>.inl hp) l1 h2 h3 h4 h5 hseg (fun listed' j' a' w' hs' hc' hl' hat fuel' _=> ?_)
     refine wpAnyIn_done ?_ (hK s' kw' U I j' a' w' h1 g1 (.of l1 _ _) hat) fuel'
     cases hrd:Region.ready .any ops listed' with
     | nil=>rfl
     | cons i l=>
       exfalso
       have hi:i∈Region.ready .any ops listed':=by rw[hrd];exact bA
       obtain⟨hu,o,ho,_⟩:=mem_ready.1 hi
       have hil:=(ey.1 ho).1
       have:listed'.getD i true=listed'.getD i false:=by
        rw[eO,eO,Array.getElem?_eq_getElem (by omega)];rfl
       rw[this] at hu
       have h6:listed'.getD i false=true:=by
        cases hbl:listed.getD i false with
        | true=>exact(hl' i).2 (.inl hbl)
        | false=>exact(hl' i).2 (.inr ((hun i hil).1 hbl))
       rw[h6] at hu;cases hu
    ·exact h1.elim
   ·rename_i ci co hbar
    have hmem:=vG hbar
    have hco:=hop _ hmem
    split at h
    rotate_left
    ·
     exact h.elim
    obtain⟨rs,s',kw',h1,g1,l1,h2,h3,h4,h5⟩:=kY (P:=P) (base:=W0.heap.size) hT hS hkeys hcl.2.1.symm _ s kw _ h hg hr.le
    split at h1
    ·rename_i hseg
     have idxT:∀{p q:Nat×Oper},p∈todo->q∈todo->p.1=q.1->p=q:=by
      intro p q hp hq e
      have h6:=hop p hp
      have h7:=hop q hq
      rw[e,h7] at h6
      exact Prod.ext e (Option.some.inj h6).symm
     refine part _ _ rs s' kw' (fun p hp=>(List.mem_filter.1 hp).1) (hnd.sublist (List.Sublist.map _ List.filter_sublist)) (fun p hp=> ?_) l1 h2 h3 h4 h5 hseg (fun listed' j' a' w' hs' hc' hl' hat fuel' hf'=> ?_)
     ·by_cases e1:p.1=ci
      ·exact .inr ⟨(ci,co),bA,e1.symm⟩
      ·have e2:Nat.beq p.1 ci=false:=by
        cases hb2:Nat.beq p.1 ci with
        | false=>rfl
        | true=>exact absurd (thm1 hb2) e1
       cases hbit:kv (dQ ops) p.1 ci with
       | false=>exact .inl (List.mem_filter.2 ⟨hp,by simp[e2,hbit]⟩)
       | true=>exact .inr ⟨p,bZ _ (List.mem_filter.2 ⟨hp,by simp[e2,hbit]⟩),rfl⟩
     ·
      have hcil:ci<ops.size:=(ey.1 hco).1
      have gd:∀i,i<ops.size->listed'.getD i true=listed'.getD i false:=fun i hi=>by
       rw[eO,eO,Array.getElem?_eq_getElem (by omega)];rfl
      have left:∀i,i<ops.size->(listed'.getD i false=false↔(i=ci\/∃p∈todo.filter fun p=>kv (dQ ops) p.1 ci &&!Nat.beq p.1 ci,p.1=i)):=by
       intro i hi
       constructor
       ·intro h6
        have h7:listed.getD i false=false:=by
         cases hbl:listed.getD i false with
         | false=>rfl
         | true=>rw[(hl' i).2 (.inl hbl)] at h6;cases h6
        obtain⟨p,hp,rfl⟩:=(hun i hi).1 h7
        by_cases e1:p.1=ci
        ·exact .inl e1
        ·right
         have e2:Nat.beq p.1 ci=false:=by
          cases hb2:Nat.beq p.1 ci with
          | false=>rfl
          | true=>exact absurd (thm1 hb2) e1
         cases hbit:kv (dQ ops) p.1 ci with
         | true=>exact⟨p,List.mem_filter.2 ⟨hp,by simp[e2,hbit]⟩,rfl⟩
         | false=>
           exfalso
           have:=(hl' p.1).2 (.inr ⟨p,List.mem_filter.2 ⟨hp,by simp[e2,hbit]⟩,rfl⟩)
           rw[this] at h6;cases h6
       ·intro h6
        cases hbl:listed'.getD i false with
        | false=>rfl
        | true=>
          exfalso
          rcases(hl' i).1 hbl with h7 | ⟨p,hp,e⟩
          ·have hin:∃p∈todo,p.1=i:=by
            rcases h6 with rfl | ⟨p,hp,e⟩
            ·exact⟨_,hmem,rfl⟩
            ·exact⟨p,(List.mem_filter.1 hp).1,e⟩
           rw[(hun i hi).2 hin] at h7;cases h7
          ·obtain⟨hp1,hp2⟩:=List.mem_filter.1 hp
           rcases h6 with rfl | ⟨q,hq,e2⟩
           ·rw[e] at hp2;simp at hp2
           ·obtain⟨hq1,hq2⟩:=List.mem_filter.1 hq
            have:=idxT hp1 hq1 (e.trans e2.symm)
            subst this
            simp only[thm0,Bool.not_eq_true'] at hp2 hq2
            rw[hp2.2] at hq2
            exact absurd hq2.1 (by simp)
      have hunc:listed'.getD ci false=false:=(left ci hcil).2 (.inl rfl)
      have notB:∀i,listed'.getD i false=false->i<ops.size->i≠ci->∀o,ops[i]? =some o->¬∀e∈o.after,Region.binds .any e=true->listed'.getD e.on false=true:=by
       intro i hu hil hne o ho hall
       rcases(left i hil).1 hu with h6 | ⟨p,hp,rfl⟩
       ·exact hne h6
       ·have h7:=(List.mem_filter.1 hp).2
        simp only[thm0] at h7
        have:=gH _ _ h7.1 (fun i=>listed'.getD i false) hc' (fun o' ho2 e he hb2=>by
         rw[ho] at ho2;cases ho2
         exact hall e he hb2)
        (try dsimp only at this)
        rw[hunc] at this;cases this
      obtain⟨f,rfl⟩:∃f,fuel'=f+1:=by
       cases fuel' with
       | zero=>have:=sM (ops:=ops) hs' hcil hunc;omega
       | succ f=>exact⟨f,rfl⟩
      have step:wpOpIn (Fw ro) 0 P ops Q ci (wpAnyIn (Fw ro) 0 P .any ops Q f (listed'.setIfInBounds ci true)) a' w'\/¬(∀e∈co.after,Region.binds .any e=true->listed'.getD e.on false=true):=by
       by_cases hall:∀e∈co.after,Region.binds .any e=true->listed'.getD e.on false=true
       ·left
        refine ag5 hT hS hkeys hcl hco h1 g1 hat (fun s2 kw2 U2 I2 j2 a2 w2 q1 q2 q3 q4=> ?_)
        have hget:∀k,(listed'.setIfInBounds ci true).getD k false=if k=ci then true else listed'.getD k false:=by
         intro k
         rw[eO,Array.getElem?_setIfInBounds]
         by_cases hk:k=ci
         ·subst hk;simp[hs',hcil]
         ·have hik:¬ci=k:=fun e=>hk e.symm
          simp[hk,hik,eO]
        refine ih _ s2 kw2 k U2 I2 (listed'.setIfInBounds ci true) j2 a2 w2 q1 q2 q4 (fun p hp=>hop p (List.mem_filter.1 hp).1) (hnd.sublist (List.Sublist.map _ List.filter_sublist)) (by simp[hs']) (qa hs' hco hc' hall) (fun i hi=> ?_)
         (fun s3 kw3 U3 I3 j3 a3 w3 p1 p2 p3 p4=>hK s3 kw3 U3 I3 j3 a3 w3 p1 p2 ((Nx.of l1 _ _).trans (q3.trans p3)) p4) f (by have:=sM (ops:=ops) hs' hcil hunc;omega)
        rw[hget]
        split
        ·rename_i e
         subst e
         refine⟨fun h=>(by cases h),fun⟨p,hp,e⟩=> ?_⟩
         have:=(List.mem_filter.1 hp).2
         rw[e] at this
         simp at this
        ·rename_i hne
         rw[left i hi]
         exact⟨fun h=>h.resolve_left hne,.inr⟩
       ·exact .inr hall
      refine⟨fun hnil=> ?_,fun i hi=> ?_⟩
      ·exfalso
       have key:∀(k:Nat),k<ops.size->listed'.getD k false=false->False:=by
        intro k
        induction k using Nat.strongRecOn with
        | _ k ihk=>
          intro hkl hku
          obtain⟨o,ho⟩:∃o,ops[k]? =some o:=⟨ops[k],Array.getElem?_eq_getElem hkl⟩
          have:k∈Region.ready .any ops listed':=by
           rw[mem_ready]
           refine⟨by rw[gd k hkl];exact hku,o,ho,fun e he hb2=> ?_⟩
           have hlt:=aoT hb ho e he hb2
           cases hbl:listed'.getD e.on false with
           | true=>rfl
           | false=>exact(ihk e.on hlt (Nat.lt_trans hlt hkl) hbl).elim
          rw[hnil] at this
          cases this
       exact key ci hcil hunc
      ·obtain⟨hu,o,ho,hall⟩:=mem_ready.1 hi
       have hil:=(ey.1 ho).1
       rw[gd i hil] at hu
       by_cases hne:i=ci
       ·subst hne
        rw[hco] at ho;cases ho
        rcases step with h6 | h6
        ·exact h6
        ·exact absurd hall h6
       ·exact absurd hall (notB i hu hil hne o ho)
    ·exact h1.elim
end
section
variable {P:Program} {sp:Spec} {U:Env} {G:Env->E->Prop} {I:Nat->List Dt->Prop} {cx:Cx} {cl:ClK} {n:Nat} {X:List Value} {W0:Wb} {ro:Option Nat} {ry:Option RfS} {rl:Option RlK}
theorem abu (tm:Nat->V) (heap:List Ob) (y:Lp):fsOf tm (heap++[.loop y])=(fsOf tm heap).setl heap.length (some y):=by
 refine Ua.ext' (fun _=>rfl) (fun b=> ?_) (fun b=> ?_) (fun b=> ?_)
 ·simp only[Ua.setl,fsOf,boxH]
  rcases Nat.lt_trichotomy b heap.length with h | h | h
  ·rw[thm8 h]
  ·subst h;simp
  ·rw[bB (by simp;omega),bB (by omega)]
 ·simp only[Ua.setl,fsOf,rowH]
  rcases Nat.lt_trichotomy b heap.length with h | h | h
  ·rw[thm8 h]
  ·subst h;simp
  ·rw[bB (by simp;omega),bB (by omega)]
 ·simp only[Ua.setl,fsOf,lpH]
  rcases Nat.lt_trichotomy b heap.length with h | h | h
  ·rw[thm8 h,if_neg (by omega)]
  ·subst h;simp
  ·rw[bB (by simp;omega),bB (by omega),if_neg (by omega)]
theorem pP {tm:Nat->V} {heap:List Ob} {id:Nat} {y:Lp} (h:heap[id]? =some (.loop y)) (y':Lp):fsOf tm (heap.set id (.loop y'))=(fsOf tm heap).setl id (some y'):=by
 have hlt:=(bR.1 h).1
 refine Ua.ext' (fun _=>rfl) (fun b=> ?_) (fun b=> ?_) (fun b=> ?_)
 ·simp only[Ua.setl,fsOf,boxH,cO]
  by_cases e:id=b
  ·subst e;simp only[if_true,hlt,h]
  ·simp only[e,if_false]
 ·simp only[Ua.setl,fsOf,rowH,cO]
  by_cases e:id=b
  ·subst e;simp only[if_true,hlt,h]
  ·simp only[e,if_false]
 ·simp only[Ua.setl,fsOf,lpH,cO]
  by_cases e:id=b
  ·subst e;simp only[if_true,hlt]
  ·rw[if_neg e,if_neg (fun e'=>e e'.symm)]
theorem abv {tm:Nat->V} {heap:List Ob} {id:Nat} {y:Lp} (h:heap[id]? =some (.loop y)):fsOf tm (heap.set id .gone)=(fsOf tm heap).endl id:=by
 have hlt:=(bR.1 h).1
 refine Ua.ext' (fun _=>rfl) (fun b=> ?_) (fun b=> ?_) (fun b=> ?_)
 ·simp only[Ua.endl,fsOf,boxH,cO]
  by_cases e:id=b
  ·subst e;simp only[if_true,hlt,h]
  ·simp only[e,if_false]
 ·simp only[Ua.endl,fsOf,rowH,cO]
  by_cases e:id=b
  ·subst e;simp only[if_true,hlt]
  ·rw[if_neg e,if_neg (fun e'=>e e'.symm)]
 ·simp only[Ua.endl,fsOf,lpH,cO]
  by_cases e:id=b
  ·subst e;simp only[if_true,hlt]
  ·rw[if_neg e,if_neg (fun e'=>e e'.symm)]
theorem lK {heap:List Ob} {id:Nat} {y:Lp}:lpH heap id=some y↔heap[id]? =some (.loop y):=by
 unfold lpH
 constructor
 ·intro h
  split at h
  ·rename_i y' hy;cases h;exact hy
  ·cases h
 ·intro h;rw[h]
theorem aon {heap:List Ob} (h:sq heap=true) (i:Nat):lpH heap i=none:=by
 cases hl:lpH heap i with
 | none=>rfl
 | some y=>
   have:=thm7.1 h _ (ez (lK.1 hl))
   cases this
theorem af1 {heap:List Ob} {id:Nat} (h:sq (heap.set id .gone)=true) (i:Nat) (y:Lp) (hy:lpH heap i=some y):i=id:=by
 refine Classical.byContradiction fun hne=> ?_
 have h1:=aon h i
 have h2:=lK.1 hy
 have:(heap.set id .gone)[i]? =some (.loop y):=by rw[cO,if_neg (fun e=>hne e.symm)];exact h2
 rw[lK.2 this] at h1
 cases h1
theorem aaQ {s:St} {j:J} {a:Act} {w:World} {W0:Wb} {f:Operand} {id g:Nat} {args:List V} (hr:At cx U n X W0 s j a w) (h:we (evS s.n s.tmps f) id=some (g,args)):
  ∃x y:List Value,a.eval f=.func (.func g) x.toArray y.toArray/\∀(j1:J) (l:Nat),Sub j j1->j1.g.y id=some l->(x++[Value.func (.yield l) #[] #[]]++y).length=args.length/\∀(i:Nat) v,args[i]? =some v->∃u,(x++[Value.func (.yield l) #[] #[]]++y)[i]? =some u/\v.den U j1=some u:=by
 have mid:∀(j1:J) (l:Nat),j1.g.y id=some l->∀(i:Nat) v,[V.one (.yld id)][i]? =some v->∃u,[Value.func (.yield l) #[] #[]][i]? =some u/\v.den U j1=some u:=by
  intro j1 l hl i v hv
  cases i with
  | zero=>
    simp only[bK,bh] at hv
    subst hv
    exact⟨_,rfl,by simp only[V.den,C.den,hl,Option.map_some]⟩
  | succ i=>simp at hv
 unfold we at h
 split at h
 ·rename_i g' hf
  cases h
  have h4:=hr.ev hf
  exact⟨[],[],(Option.some.inj h4).symm,fun j1 l hs hl=>⟨rfl,by simpa using mid j1 l hl⟩⟩
 ·rename_i g' fs ps hf
  cases h
  obtain⟨x,y,hx,hy,h5⟩:=dS (show cloV g (de j fs) (de j ps)=some (a.eval f) from hr.ev hf)
  obtain⟨e1,e2⟩:=kr (U:=U) hx
  obtain⟨e3,e4⟩:=kr (U:=U) hy
  have up:∀{j1:J} (hs:Sub j j1) {l:List V} {us:List Value},(∀(i:Nat) v,l[i]? =some v->∃u,us[i]? =some u/\v.den U j=some u)->∀(i:Nat) v,l[i]? =some v->∃u,us[i]? =some u/\v.den U j1=some u:=fun hs l us hh i v hv=>by
   obtain⟨u,h1,h2⟩:=hh i v hv
   exact⟨u,h1,V.den_sub hs h2⟩
  exact⟨x,y,h5,fun j1 l hs hl=>⟨by simp only[eA,e1,e3,List.length_singleton],mu (by simp only[eA,e1,List.length_singleton]) (mu e1 (up hs e2) (mid j1 l hl)) (up hs e4)⟩⟩
 ·cases h
theorem mw (hcl:CallOk P sp G cx ry cl) (hrl:∀f,rl=some f->ro=none/\∀r,CallOk P sp G cx (some r) (f r)) (hm:P.follows .mixedOrders=true) (hT:∀t i,(t,i)∈cx.ty->TIok P t i) (hS:∀s∈cx.sm,SmOk P sp s) (hkeys:∀s∈cx.sm,∀s'∈cx.sm,s.key=s'.key->s=s') (fuel:Nat):
  ∀(c:Code) (W0:Wb) (s:St) (kw:Kw) (k:Sig->St->Kw->Tr) (Q:Exit->Act->World->Prop) (U:Env) (I:Nat->List Dt->Prop) (j:J) (a:Act) (w:World),Tie sp ry X W0->(rl.isSome=true->W0.top=true/\W0.rf=none)->(dU cl rl cx fuel c s kw k).holds sp G U I->Good sp cx.sm U kw->At cx U n X W0 s j a w->
   (∀M' sg s' kw' U' I' j' a' w',(rl=none->M'=W0.M)->(k sg s' kw').holds sp G U' I'->Good sp cx.sm U' kw'->Ag kw.vk.length U U'->(∀m,m<kw.lv->I' m=I m)->kw.lv<=kw'.lv->kw.vk.length<=kw'.vk.length->At cx U' n X {W0 with M:=M'} s' j' a' w'->Q sg.exit' a' w')->c.wpIn (Fw ro) 0 P Q a w:=by
 intro c
 induction c with
 | skip=>intro W0 s kw k Q U I j a w ht hrt h hg hr hQ;exact wpIn_skip (hQ W0.M _ _ _ _ _ _ _ _ (fun _=>rfl) h hg (.refl _ _) (fun _ _=>rfl) (Nat.le_refl _) (Nat.le_refl _) hr)
 | label l=>intro W0 s kw k Q U I j a w ht hrt h hg hr hQ;exact wpIn_label (hQ W0.M _ _ _ _ _ _ _ _ (fun _=>rfl) h hg (.refl _ _) (fun _ _=>rfl) (Nat.le_refl _) (Nat.le_refl _) hr)
 | exit id=>intro W0 s kw k Q U I j a w ht hrt h hg hr hQ;exact wpIn_exit (hQ W0.M (.exit id) _ _ _ _ _ _ _ (fun _=>rfl) h hg (.refl _ _) (fun _ _=>rfl) (Nat.le_refl _) (Nat.le_refl _) hr)
 | ret=>intro W0 s kw k Q U I j a w ht hrt h hg hr hQ;exact wpIn_ret (hQ W0.M .ret _ _ _ _ _ _ _ (fun _=>rfl) h hg (.refl _ _) (fun _ _=>rfl) (Nat.le_refl _) (Nat.le_refl _) hr)
 | scope c ih=>
   intro W0 s kw k Q U I j a w ht hrt h hg hr hQ
   refine iE (ih W0 s kw k _ U I j a w ht hrt h hg hr fun M' sg s' kw' U' I' j' a' w' q0 q1 q2 q3 q4 q5 q6 q7=> ?_)
   have:=hQ M' sg s' kw' U' I' j' a' w' q0 q1 q2 q3 q4 q5 q6 q7
   cases sg<;>exact this
 | region id ops draw=>
   intro W0 s kw k Q U I j a w ht hrt h hg hr hQ
   simp only[dU] at h
   split at h
   ·obtain⟨rs,s',kw',h1,g1,l1,h2,h3,h4,h5⟩:=kY (P:=P) (base:=W0.heap.size) hT hS hkeys ht.1.symm ops.toList s kw _ h hg hr.le
    rw[hr.own] at h5
    have fin:∀j' a' w',(k .normal s' kw').holds sp G U I->Rel U n X W0 cx.fbs (full rs s.fs) j' a' w'->Q .normal a' w':=fun j' a' w' hk hr'=>
     hQ W0.M .normal s' kw' U I j' a' w' (fun _=>rfl) hk g1 (.refl _ _) (fun _ _=>rfl) (by rw[l1.lv];exact Nat.le_refl _) l1.vk ⟨by rw[h3];exact hr',by rw[h4.1];exact hr.len,by rw[h4.2];exact hr.own⟩
    cases draw with
    | false=>
      refine wpIn_region ?_
      have hsz:ops.size=rs.length:=by rw[<-Array.length_toList,<-h2,List.length_map]
      rw[hsz,List.range_eq_range']
      exact pB (P:=P) rs [] s.fs (by simpa using h2.symm) (by simpa using h5) (by simpa[full] using hr.rel) (fun j' a' w' hr'=>fin j' a' w' h1 (by simpa using hr'))
    | true=>
      simp only[if_true] at h1
      split at h1
      ·rename_i hord
       obtain⟨g2,g3⟩:=afW (ops:=ops) akN rs [] [] (by simpa using h2.symm) hord rfl (fun i hi=>by simp at hi)
       refine wpIn_region_any hm ?_
       have hsz:ops.size=rs.length:=by rw[<-Array.length_toList,<-h2,List.length_map]
       refine abg (F0:=s.fs) (L:=rs) h2.symm h5 (fun i o ho e he hb=> ?_) (fun k i x r hk hx hri=>by simpa using g3 k i x r hk (Nat.zero_le _) (by simpa using hx) (by simpa using hri)) (fun j' a' w' hr'=>fin j' a' w' h1 hr') ops.size (Array.replicate ops.size false) j a _ (by simp[hsz]) ?_ ?_ ?_
       ·have hlt:i<rs.length:=by
         rw[<-hsz]
         rcases aV i ops.size with h6 | h6
         ·exact h6
         ·rw[Array.getElem?_eq_none h6] at ho;cases ho
        have hri:rs[i]? =some rs[i]:=thm6 hlt
        have:=akN i _ rs h2.symm hri
        rw[ho] at this
        cases this
        exact g2 i _ (Nat.zero_le _) (by simp) e he hb
       ·intro i o _ hs
        simp only[eO,Array.getElem?_replicate] at hs
        split at hs<;>simp at hs
       ·exact Nat.le_trans List.countP_le_length (by simp[hsz])
       ·rw[vm rs 0 s.fs (fun m hm=>by
         simp only[eO,Array.getElem?_replicate]
         split<;>simp)]
        exact hr.rel.more (Ext.refl w).drew
      ·exact h1.elim
   ·have hK:∀s' kw' U' I' j' a' w',(k .normal s' kw').holds sp G U' I'->Good sp cx.sm U' kw'->Nx kw kw' U U' I I'->At cx U' n X W0 s' j' a' w'->Q .normal a' w':=
     fun s' kw' U' I' j' a' w' q1 q2 q3 q4=>hQ W0.M .normal s' kw' U' I' j' a' w' (fun _=>rfl) q1 q2 q3.ag q3.inv q3.lv q3.vk q4
    cases draw with
    | false=>
      refine wpIn_region ?_
      rw[List.range_eq_range',<-Array.length_toList]
      exact afK hT hS hkeys ⟨hcl,ht⟩ ops.toList 0 (fun m o hm=>by rw[bn,<-iJ];exact hm) s kw _ U I j a w h hg hr hK
    | true=>
      simp only[if_true] at h
      split at h
      ·rename_i hb
       refine wpIn_region_any hm ?_
       refine jo (Q:=fun e a w=>e=.normal/\Q .normal a w) (fun e a w h=>by rw[h.1];exact h.2) _ _ _ _ ?_
       have hnd:((dR 0 ops.toList).map (·.1)).Nodup:=by rw[oM];exact List.nodup_range'
       have gd:∀i,i<ops.size->(Array.replicate ops.size false).getD i false=false:=fun i hi=>by
        rw[eO,Array.getElem?_replicate,if_pos hi];rfl
       refine an5 (W0:=W0) (n:=n) (X:=X) hT hS hkeys ⟨hcl,ht⟩ hb (fun c a w h=>by cases h.1) _ _ s kw _ U I _ j a _ h hg ⟨hr.rel.more (Ext.refl w).drew,hr.len,hr.own⟩ (fun p hp=>agE hp) hnd (by simp) ?_ (fun i hi=>⟨fun _=> ?_,fun _=>gd i hi⟩)
        (fun s' kw' U' I' j' a' w' q1 q2 q3 q4=>⟨rfl,hK s' kw' U' I' j' a' w' q1 q2 q3 q4⟩) ops.size ?_
       ·intro i o ho hs
        have:=gd i (ey.1 ho).1
        exact Bool.noConfusion (hs.symm.trans this)
       ·have:i∈(dR 0 ops.toList).map (·.1):=by rw[oM,List.mem_range'_1];simp;exact hi
        obtain⟨p,hp,e⟩:=List.mem_map.1 this
        exact⟨p,hp,e⟩
       ·exact Nat.le_trans List.countP_le_length (by simp)
      ·exact h.elim
 | seq x y ihx ihy=>
   intro W0 s kw k Q U I j a w ht hrt h hg hr hQ
   simp only[dU] at h
   split at h
   ·refine wpIn_seq (ihx W0 s kw _ _ U I j a w ht hrt h hg hr (fun M' sg s' kw' U' I' j' a' w' hM' h' hg' ha' hI' hl' hv' hr'=> ?_))
    cases sg with
    | normal=>exact ihy {W0 with M:=M'} s' kw' k Q U' I' j' a' w' ht hrt h' hg' hr' (fun M2 sg s2 kw2 U2 I2 j2 a2 w2 hM2 h2 hg2 ha2 hI2 hl2 hv2 hr2=>hQ M2 sg s2 kw2 U2 I2 j2 a2 w2 (fun e=>(hM2 e).trans (hM' e)) h2 hg2 (ha'.trans (ha2.mono hv')) (fun m hm=>(hI2 m (by omega)).trans (hI' m hm)) (by omega) (by omega) hr2)
    | exit id=>exact hQ M' (.exit id) s' kw' U' I' j' a' w' hM' h' hg' ha' hI' hl' hv' hr'
    | ret=>exact hQ M' .ret s' kw' U' I' j' a' w' hM' h' hg' ha' hI' hl' hv' hr'
   ·rename_i id pls _
    split at h
    ·refine wpIn_seq (ihx W0 s kw _ _ U I j a w ht hrt h hg hr (fun M' sg s' kw' U' I' j' a' w' hM' h' hg' ha' hI' hl' hv' hr'=> ?_))
     cases sg with
     | normal=>exact h'.elim
     | exit id=>exact hQ M' (.exit id) s' kw' U' I' j' a' w' hM' h' hg' ha' hI' hl' hv' hr'
     | ret=>exact hQ M' .ret s' kw' U' I' j' a' w' hM' h' hg' ha' hI' hl' hv' hr'
    ·split at h
     ·rename_i hd vks habs
      have hlen:hd.tmps.length=n+X.length/\hd.n=n:=⟨(ia habs).1.trans hr.len,(ia habs).2.trans hr.own⟩
      obtain⟨inv,hpre,hbody⟩:=h
      refine wpIn_seq (ihx W0 s {kw with lv:=kw.lv+1} _ _ U (upd I kw.lv inv) j a w ht hrt hpre ⟨hg.pc,hg.vk,hg.log⟩ hr (fun M' sg s' kw' U' I' j' a' w' hM' h' hg' ha' hI' hl' hv' hr'=> ?_))
      have vY:∀m,m<kw.lv->I' m=I m:=fun m hm=>(hI' m (by show m<kw.lv+1;omega)).trans (mB I inv (by omega))
      cases sg with
      | normal=>
        obtain⟨ds,h1,h2,j3,h3⟩:=aag (U:=U) h' hg'.vk hlen ha' hr'
        rw[hI' kw.lv (Nat.lt_succ_self _),af] at h1
        obtain⟨U2,g1,g2,g3⟩:=hbody ds h2 h1
        refine ihy {W0 with M:=M'} hd (kw.head vks) k Q U2 I j3 a' w' ht hrt g3 (oH hg g1 (by rw[g2];exact h2)) (h3 U2 g1 g2) (fun M2 sg s2 kw2 U3 I2 j2 a2 w2 hM2 h2 hg2 ha2 hI2 hl2 hv2 hr2=>hQ M2 sg s2 kw2 U3 I2 j2 a2 w2 (fun e=>(hM2 e).trans (hM' e)) h2 hg2 (g1.trans (ha2.mono ?_)) (fun m hm=>hI2 m ?_) ?_ ?_ hr2)
        ·simp[Kw.head]
        ·show m<kw.lv+1;omega
        ·have:kw.lv+1<=kw2.lv:=hl2
         omega
        ·have:(kw.vk++vks).length<=kw2.vk.length:=hv2
         rw[eA] at this
         omega
      | exit id=>exact hQ M' (.exit id) s' kw' U' I' j' a' w' hM' h' hg' ha' vY (by have:kw.lv+1<=kw'.lv:=hl';omega) hv' hr'
      | ret=>exact hQ M' .ret s' kw' U' I' j' a' w' hM' h' hg' ha' vY (by have:kw.lv+1<=kw'.lv:=hl';omega) hv' hr'
     ·exact h.elim
 | cond c x y ihx ihy=>
   intro W0 s kw k Q U I j a w ht hrt h hg hr hQ
   simp only[dU] at h
   split at h
   ·rename_i e he
    have hc:a.eval c=.bool (e.B U):=by
     exact gX (hr.ev he)
    obtain⟨kw1,h1,g1,v1,l1⟩:=aY _ _ _ h hg
    have hQ':∀M' sg s' kw' U' I' j' a' w',(rl=none->M'=W0.M)->(k sg s' kw').holds sp G U' I'->Good sp cx.sm U' kw'->Ag kw1.vk.length U U'->(∀m,m<kw1.lv->I' m=I m)->kw1.lv<=kw'.lv->kw1.vk.length<=kw'.vk.length->At cx U' n X {W0 with M:=M'} s' j' a' w'->Q sg.exit' a' w':=by
     intro M' sg s' kw' U' I' j' a' w' hM' h' hg' ha' hI' hl' hv' hr'
     rw[v1] at ha' hv'
     rw[l1.lv] at hI' hl'
     exact hQ M' sg s' kw' U' I' j' a' w' hM' h' hg' ha' hI' hl' hv' hr'
    refine wpIn_cond_split hc (fun hcb=> ?_) (fun hcb=> ?_)
    ·rw[hcb] at h1
     exact ihx W0 s kw1 k Q U I j a w ht hrt h1 g1 hr hQ'
    ·rw[hcb] at h1
     exact ihy W0 s kw1 k Q U I j a w ht hrt h1 g1 hr hQ'
   ·exact h.elim
 | block id c ih=>
   intro W0 s kw k Q U I j a w ht hrt h hg hr hQ
   refine wpIn_block (ih W0 s kw _ _ U I j a w ht hrt h hg hr (fun M' sg s' kw' U' I' j' a' w' hM' h' hg' ha' hI' hl' hv' hr'=> ?_))
   cases sg with
   | normal=>exact hQ M' .normal s' kw' U' I' j' a' w' hM' h' hg' ha' hI' hl' hv' hr'
   | ret=>exact hQ M' .ret s' kw' U' I' j' a' w' hM' h' hg' ha' hI' hl' hv' hr'
   | exit i=>
     dsimp only at h'
     unfold Sig.exit' Exit.inBlock
     dsimp only
     split at h'
     ·rename_i hi
      rw[if_pos (thm1 hi)]
      exact hQ M' .normal s' kw' U' I' j' a' w' hM' h' hg' ha' hI' hl' hv' hr'
     ·rename_i hi
      rw[if_neg (fun e=>hi (by rw[e];simp))]
      exact hQ M' (.exit i) s' kw' U' I' j' a' w' hM' h' hg' ha' hI' hl' hv' hr'
 | loop c ih=>
   intro W0 s kw k Q U I j a w ht hrt h hg hr hQ
   simp only[dU] at h
   split at h
   ·refine wpIn_loop_rounds fuel ?_
    have key:∀(m:Nat) (M:List Nat) (s:St) (kw2:Kw) (U2:Env) (I2:Nat->List Dt->Prop) (j:J) (a:Act) (w:World),(rl=none->M=W0.M)->(ajy (dU cl rl cx fuel c) m s kw2 k).holds sp G U2 I2->Good sp cx.sm U2 kw2->Ag kw.vk.length U U2->(∀m,m<kw.lv->I2 m=I m)->kw.lv<=kw2.lv->kw.vk.length<=kw2.vk.length->At cx U2 n X {W0 with M:=M} s j a w->Code.roundsIn (Fw ro) 0 P c Q m a w:=by
     intro m
     induction m with
     | zero=>intro M s kw2 U2 I2 j a w hM h;exact h.elim
     | succ m ihm=>
       intro M s kw2 U2 I2 j a w hM h hg ha2 hI2 hl2 hv2 hr
       rw[roundsIn_succ]
       simp only[ajy] at h
       refine ih {W0 with M:=M} s kw2 _ _ U2 I2 j a w ht hrt h hg hr (fun M' sg s' kw' U' I' j' a' w' hM' h' hg' ha' hI' hl' hv' hr'=> ?_)
       have ha3:Ag kw.vk.length U U':=ha2.trans (ha'.mono hv2)
       have hI3:∀m,m<kw.lv->I' m=I m:=fun m hm=>(hI' m (by omega)).trans (hI2 m hm)
       cases sg with
       | normal=>exact ihm M' s' kw' U' I' j' a' w' (fun e=>(hM' e).trans (hM e)) h' hg' ha3 hI3 (by omega) (by omega) hr'
       | exit id=>exact hQ M' (.exit id) s' kw' U' I' j' a' w' (fun e=>(hM' e).trans (hM e)) h' hg' ha3 hI3 (by omega) (by omega) hr'
       | ret=>exact hQ M' .ret s' kw' U' I' j' a' w' (fun e=>(hM' e).trans (hM e)) h' hg' ha3 hI3 (by omega) (by omega) hr'
    exact key fuel W0.M s kw U I j a w (fun _=>rfl) h hg (.refl _ _) (fun _ _=>rfl) (Nat.le_refl _) (Nat.le_refl _) hr
   ·rename_i id pls _
    split at h
    ·exact h.elim
    ·split at h
     ·rename_i hd vks θ ex habs harg
      split at h
      ·rename_i hok
       have hlen:hd.tmps.length=n+X.length/\hd.n=n:=⟨(ia habs).1.trans hr.len,(ia habs).2.trans hr.own⟩
       obtain⟨inv,μ,hinit,hbody⟩:=h
       obtain⟨d1,d2⟩:=pJ hok hg.vk hlen (.refl _ _) hr
       have key:∀(m:Nat) (M:List Nat) (ds:List Dt) (a:Act) (w:World),(rl=none->M=W0.M)->μ ds<m->inv ds->okDs vks ds->ahb cx n X {W0 with M:=M} U kw.vk.length vks hd ds a w->Code.roundsIn (Fw ro) 0 P c Q m a w:=by
        intro m
        induction m with
        | zero=>intro M ds a w _ h;omega
        | succ m ihm=>
          intro M ds a w hM hμ hin hds hat
          rw[roundsIn_succ]
          obtain⟨U2,g1,g2,g3⟩:=hbody ds hds hin
          obtain⟨j2,hj2⟩:=hat
          refine ih {W0 with M:=M} hd (kw.head vks) _ _ U2 _ j2 a w ht hrt g3 (oH hg g1 (by rw[g2];exact hds)) (hj2 U2 g1 g2) (fun M' sg s' kw' U' I' j' a' w' hM' h' hg' ha' hI' hl' hv' hr'=> ?_)
          have hv2:kw.vk.length<=(kw.head vks).vk.length:=by simp[Kw.head]
          have ha3:Ag kw.vk.length U U':=g1.trans (ha'.mono hv2)
          have hI3:∀m,m<kw.lv->I' m=I m:=fun m hm=>(hI' m (by show m<kw.lv+1;omega)).trans (mB I _ (by omega))
          have hl3:kw.lv<=kw'.lv:=by have:kw.lv+1<=kw'.lv:=hl';omega
          have hv3:kw.vk.length<=kw'.vk.length:=by omega
          cases sg with
          | normal=>
            obtain⟨ds',k1,k2,k3⟩:=aag (U:=U) h' hg'.vk hlen ha3 hr'
            rw[hI' kw.lv (Nat.lt_succ_self _),af] at k1
            exact ihm M' ds' a' w' (fun e=>(hM' e).trans (hM e)) (by omega) k1.1 k2 k3
          | exit id=>exact hQ M' (.exit id) s' kw' U' I' j' a' w' (fun e=>(hM' e).trans (hM e)) h' hg' ha3 hI3 hl3 hv3 hr'
          | ret=>exact hQ M' .ret s' kw' U' I' j' a' w' (fun e=>(hM' e).trans (hM e)) h' hg' ha3 hI3 hl3 hv3 hr'
       exact wpIn_loop_rounds (μ ((argE vks θ).D U)+1) (key _ W0.M _ a w (fun _=>rfl) (Nat.lt_succ_self _) hinit d1 d2)
      ·exact h.elim
     ·exact h.elim
 | rangeFunc f ps assign body=>
   intro W0 s kw k Q U I j a w ht hrt h hg hr hQ
   simp only[dU] at h
   split at h<;>first | exact h.elim | skip
   rename_i rlf g args hargs _ _
   split at h<;>first | exact h.elim | skip
   rename_i hck
   rw[thm0] at hck
   have hgb:g<yB:=by simpa[Nat.blt_eq] using hck.1
   obtain⟨rfl,hcr⟩:=hrl _ rfl
   obtain⟨w0,M0,top0,rf0,hw0,hh0⟩:=W0
   obtain⟨htop,hrf⟩:=hrt rfl
   dsimp only at htop hrf
   subst htop hrf
   obtain⟨x,y,hev,hdens⟩:=aaQ hr hargs
   refine wpIn_rangeFunc fun fn _=> ?_
   obtain⟨o,ho⟩:∃o:Loop,o={state:=.ready,pending:=none,fn,tmps:=a.tmps,params:=ps,assign,body,defers:=w.heap.size}:=⟨_,rfl⟩
   obtain⟨rf,hrf⟩:∃rf:Rf,rf=⟨ps,assign,body,a.tmps,w.heap.size+1⟩:=⟨_,rfl⟩
   have hl:rf.l=w.heap.size+1:=by rw[hrf]
   have hfs:(St.mk s.tmps (s.heap++[.loop ⟨.ready,none⟩])).fs=s.fs.setl s.heap.length (some ⟨.ready,none⟩):=abu _ _ _
   have hrel:=hr.rel.loopNew (id:=s.heap.length) (gF (Nat.le_refl _)).1 (aon hck.2 _) rfl rfl hl (o:=o) ⟨by rw[ho];rfl,by rw[ho];rfl,by rw[ho,hrf],by rw[ho,hrf],by rw[ho,hrf],by rw[ho,hrf]⟩
   rw[<-hfs] at hrel
   obtain⟨j1,hj1⟩:∃j1,j1=({j with g:=⟨fun b=>if b=s.heap.length then some rf.l else j.g.y b,fun k=>if k=rf.l then some (.loop o) else if k=w.heap.size then some (.deferred (some [])) else j.g.z k⟩}:J):=⟨_,rfl⟩
   rw[<-hj1] at hrel
   have hy1:j1.g.y s.heap.length=some (w.heap.size+1):=by rw[hj1];simp[hl]
   have hsub:Sub j j1:=by
    rw[hj1]
    exact⟨fun _ _ h=>h,fun _ _ h=>h,fun _ _ h=>h,fun b k hb=>by
     show(if b=s.heap.length then some rf.l else j.g.y b)=some k
     by_cases e:b=s.heap.length
     ·subst e;rw[hr.rel.gs.nol _ (gF (Nat.le_refl _)).1 (aon hck.2 _)] at hb;cases hb
     ·rw[if_neg e];exact hb⟩
   obtain⟨hd1,hd2⟩:=hdens j1 (w.heap.size+1) hsub hy1
   have hlen:X.length=df s.tmps.old:=by
    have h1:=hr.len
    have h2:=hr.own
    unfold TM.length at h1
    unfold St.n at h2
    omega
   have key:(callFunc g (x++[Value.func (.yield (w.heap.size+1)) #[] #[]]++y).toArray).run P ((w.alloc (.deferred (some []))).alloc (.loop o))=.ok (.enter g (x++[Value.func (.yield (w.heap.size+1)) #[] #[]]++y).toArray) ((w.alloc (.deferred (some []))).alloc (.loop o))/\
    Calls P g (x++[Value.func (.yield (w.heap.size+1)) #[] #[]]++y).toArray ((w.alloc (.deferred (some []))).alloc (.loop o)) fun e w'=>∃u,e=.returned u/\rangePost (Fw none) 0 P (w.heap.size+1) Q {a with defers:={target:=.collected w.heap.size,args:= #[]}::a.defers} (.returned u) w':=by
    refine(hcr ⟨ps,assign,body,df s.tmps.old,s.n,cx.hints,cx.cuts⟩).call g args ⟨s.tmps,s.heap++[.loop ⟨.ready,none⟩]⟩ kw _ (fun u w'=>rangePost (Fw none) 0 P (w.heap.size+1) Q {a with defers:={target:=.collected w.heap.size,args:= #[]}::a.defers} (.returned u) w') U I n X _ j1 _ _ _ hgb h hg ⟨hrel,hr.len,hr.own⟩ ⟨by exact ht.1,rf,[],X,rfl,by rw[hrf],by rw[hrf],by rw[hrf],by rw[hrf];exact hr.rel.size.trans hr.own.symm,by rw[hrf];rfl,hlen⟩ hd1 hd2 (fun v s' kw' U' I' j' w' u h' hg' ha' hI' hl' hv' hvd hat=> ?_)
    split at h'<;>first | exact h'.elim | skip
    rename_i yy hyy
    have hy:s'.fs.lp s.heap.length=some yy:=lK.2 hyy
    obtain⟨rf',o',e1,e2,e3,e4,e5,e6⟩:=hat.rel.lpZ hy
    cases e1
    rw[hl] at e4
    have fin:∀(hb:yy.st≠.busy),sq (s'.heap.set s.heap.length .gone)=true->∃W4 j2,(Instr.endLoop (w.heap.size+1)).run P w'=.ok o'.pending W4/\At cx U' n X ⟨w0,w.heap.size::M0,true,none,hw0,hh0⟩ ⟨s'.tmps,s'.heap.set s.heap.length .gone⟩ j2 {a with defers:={target:=.collected w.heap.size,args:= #[]}::a.defers} W4:=by
     intro hb hn
     refine⟨_,j'.setz rf.l none,run_endLoop e4 (by rw[e5.st];cases hs:yy.st<;>simp_all [LS.st]),⟨?_,hat.len,hat.own⟩⟩
     rw[show(St.mk s'.tmps (s'.heap.set s.heap.length .gone)).fs=s'.fs.endl s.heap.length from abv hyy,<-hl]
     exact hat.rel.loopEnd hy (fun i yi h=>af1 hn i yi h) e3 _
    have out:∀sg:Option Sig,yy.pend=sg->yy.st≠.busy->sq (s'.heap.set s.heap.length .gone)=true->((match sg with | none=>k .normal ⟨s'.tmps,s'.heap.set s.heap.length .gone⟩ kw' | some .normal=>.stuck 207 | some sg=>k sg ⟨s'.tmps,s'.heap.set s.heap.length .gone⟩ kw':Tr).holds sp G U' I')->
     rangePost (Fw none) 0 P (w.heap.size+1) Q {a with defers:={target:=.collected w.heap.size,args:= #[]}::a.defers} (.returned u) w':=by
     intro sg hsg hb hn hh
     obtain⟨W4,j2,hrun,hat2⟩:=fin hb hn
     refine⟨_,_,hrun,?_⟩
     rw[e5.pend,hsg]
     rcases sg with _ | (_ | id | _)
     ·exact hQ _ .normal _ kw' U' I' j2 _ _ (fun e=>by cases e) hh hg' ha' hI' hl' hv' hat2
     ·exact hh.elim
     ·exact wpIn_exit (hQ _ (.exit id) _ kw' U' I' j2 _ _ (fun e=>by cases e) hh hg' ha' hI' hl' hv' hat2)
     ·exact wpIn_ret (hQ _ .ret _ kw' U' I' j2 _ _ (fun e=>by cases e) hh hg' ha' hI' hl' hv' hat2)
    obtain⟨st,pend⟩:=yy
    cases st with
    | busy=>exact h'.elim
    | ready=>
      dsimp only at h'
      split at h'
      ·rename_i hn
       exact out pend rfl (by simp) hn h'
      ·exact h'.elim
    | done=>
      dsimp only at h'
      split at h'
      ·rename_i hn
       exact out pend rfl (by simp) hn h'
      ·exact h'.elim
   obtain⟨hcf,hcall⟩:=key
   refine⟨w.heap.size+1,[{target:=.collected w.heap.size,args:= #[]}],(w.alloc (.deferred (some []))).alloc (.loop o),{target:=.fn (.func g) y.toArray,args:=x.toArray ++ #[.func (.yield (w.heap.size+1)) #[] #[]]},(w.alloc (.deferred (some []))).alloc (.loop o),g,(x++[Value.func (.yield (w.heap.size+1)) #[] #[]]++y).toArray,(w.alloc (.deferred (some []))).alloc (.loop o),?_,?_,fun _ _=>trivial,?_,aav,hJ.2 (hcall.mono ?_)⟩
   ·rw[ho];exact run_enterLoop_outer _ _ _ _ _
   ·simp only[resolve,hev,Deferred.ofValue,Sem.run_bind,Sem.run_pure,Result.andThen_ok]
    simp[Act.eval]
   ·have e:((x.toArray ++ #[Value.func (.yield (w.heap.size+1)) #[] #[]])++y.toArray)=(x++[Value.func (.yield (w.heap.size+1)) #[] #[]]++y).toArray:=by simp
    simp only[invoke,e]
    exact hcf
   ·rintro e w' ⟨u,rfl,hk⟩
    exact hk
 | _=>intro W0 s kw k Q U I j a w ht hrt h;exact h.elim
end
end Go.Proofs.YtfkhblmeioiciaaGreatDoor
