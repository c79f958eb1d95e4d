import Derived.Test.YtfkhblmeioiciaaGreatDoorAcZ
import Derived.LoopN
import Derived.Lib.LazyBuf
import Derived.DeepKeys
set_option maxRecDepth 100000
set_option maxHeartbeats 8000000
set_option linter.defProp false
set_option linter.unusedVariables false
set_option linter.unusedSimpArgs false
namespace Go.Proofs.YtfkhblmeioiciaaGreatDoor
open Go.RowKit
def E.sc (n:Nat):E->Bool
 | .lit _ | .nil | .tt _ | .ln=>true
 | .var i | .bw i | .lw i=>Nat.blt i n
 | .bin _ _ a b | .nth a b | .leq a b | .mix a b | .mn a b | .mx a b | .cons a b | .cb a b | .cL a b | .lt a b | .eq a b | .and a b | .beq a b | .lq a b | .lcat a b | .lrep a b | .ltake a b | .ldrop a b=>a.sc n&&b.sc n
 | .get a i _ | .getb a i _=>a.sc n&&i.sc n
 | .lset a i _ x | .lsetb a i _ x | .lput a i x | .ite a i x=>a.sc n&&(i.sc n&&x.sc n)
 | .conv _ a | .not a | .len a=>a.sc n
theorem E.sc_eq {n:Nat} {U U':Env} (h:Ag n U U'):∀e:E,e.sc n=true->e.I U=e.I U'/\e.B U=e.B U'/\e.L U=e.L U'/\e.R U=e.R U'/\e.D U=e.D U':=by
 intro e
 induction e<;>intro hs<;>simp only[E.sc,thm0] at hs
 case var i=>exact⟨(h i (by simpa[Nat.blt_eq] using hs)).1,rfl,rfl,rfl,rfl⟩
 case bw i=>exact⟨rfl,(h i (by simpa[Nat.blt_eq] using hs)).2.1,rfl,rfl,rfl⟩
 case lw i=>exact⟨rfl,rfl,rfl,(h i (by simpa[Nat.blt_eq] using hs)).2.2,rfl⟩
 case lit=>exact⟨rfl,rfl,rfl,rfl,rfl⟩
 case nil=>exact⟨rfl,rfl,rfl,rfl,rfl⟩
 case ln=>exact⟨rfl,rfl,rfl,rfl,rfl⟩
 case tt=>exact⟨rfl,rfl,rfl,rfl,rfl⟩
 case conv ih=>simp[E.I,E.B,E.L,E.R,E.D,ih hs]
 case not ih=>simp[E.I,E.B,E.L,E.R,E.D,ih hs]
 case len ih=>simp[E.I,E.B,E.L,E.R,E.D,ih hs]
 case lset ih1 ih2 ih3=>simp[E.I,E.B,E.L,E.R,E.D,ih1 hs.1,ih2 hs.2.1,ih3 hs.2.2]
 case ite ih1 ih2 ih3=>simp[E.I,E.B,E.L,E.R,E.D,ih1 hs.1,ih2 hs.2.1,ih3 hs.2.2]
 case lput ih1 ih2 ih3=>simp[E.I,E.B,E.L,E.R,E.D,ih1 hs.1,ih2 hs.2.1,ih3 hs.2.2]
 case lsetb ih1 ih2 ih3=>simp[E.I,E.B,E.L,E.R,E.D,ih1 hs.1,ih2 hs.2.1,ih3 hs.2.2]
 all_goals
  rename_i ih1 ih2
  simp[E.I,E.B,E.L,E.R,E.D,ih1 hs.1,ih2 hs.2]
def argE:List VK->List E->E
 | .int _::ks,e::es=>.cons e (argE ks es)
 | .bool::ks,e::es=>.cb e (argE ks es)
 | .list _::ks,e::es=>.cL e (argE ks es)
 | _,_=>.nil
structure Giv (v0:Nat) (vks:List VK) (θ:List E) (U U':Env):Prop where
 ag:Ag v0 U U'
 i:∀m k t,vks[m]? =some (.int k)->θ[m]? =some t->U'.i (v0+m)=t.I U
 b:∀m t,vks[m]? =some .bool->θ[m]? =some t->U'.b (v0+m)=t.B U
 l:∀m ks t,vks[m]? =some (.list ks)->θ[m]? =some t->U'.l (v0+m)=t.R U
theorem kj {a b:Bool} (h:b2i a=b2i b):a=b:=by cases a<;>cases b<;>first | rfl | cases h
theorem acw {U U':Env}:∀(vks:List VK) (θ:List E) (n:Nat),θ.length=vks.length->varsD U' n vks=(argE vks θ).D U->∀m t,θ[m]? =some t->(∀k,vks[m]? =some (.int k)->U'.i (n+m)=t.I U)/\(vks[m]? =some .bool->U'.b (n+m)=t.B U)/\(∀ks,vks[m]? =some (.list ks)->U'.l (n+m)=t.R U)
 | [],θ,n,hl,h,m,t,ht=>⟨fun k hk=>by simp at hk,fun hk=>by simp at hk,fun k hk=>by simp at hk⟩
 | vk::vks,[],n,hl,h,m,t,ht=>by cases hl
 | vk::vks,e::θ,n,hl,h,m,t,ht=>by
   have hl':θ.length=vks.length:=by simpa using hl
   have step:∀d,varD U' n vk=d->(argE (vk::vks) (e::θ)).D U=d::(argE vks θ).D U->varsD U' (n+1) vks=(argE vks θ).D U:=by
    intro d _ h2
    have h3:varD U' n vk::varsD U' (n+1) vks=(argE (vk::vks) (e::θ)).D U:=h
    rw[h2] at h3
    exact(List.cons.inj h3).2
   cases m with
   | zero=>
     simp only[bT,bk,Nat.add_zero] at ht ⊢
     subst ht
     have h0:varD U' n vk::varsD U' (n+1) vks=(argE (vk::vks) (e::θ)).D U:=h
     refine⟨fun k hk=> ?_,fun hk=> ?_,fun ks hk=> ?_⟩
     ·subst hk
      simp only[argE,E.D,varD,thm5,Dt.z.injEq] at h0
      exact h0.1
     ·subst hk
      simp only[argE,E.D,varD,thm5,Dt.z.injEq] at h0
      exact kj h0.1
     ·subst hk
      simp only[argE,E.D,varD,thm5,Dt.l.injEq] at h0
      exact h0.1
   | succ m=>
     have h1:varsD U' (n+1) vks=(argE vks θ).D U:=by
      have h0:varD U' n vk::varsD U' (n+1) vks=(argE (vk::vks) (e::θ)).D U:=h
      cases vk<;>simp only[argE,E.D,thm5] at h0<;>exact h0.2
     have:=acw vks θ (n+1) hl' h1 m t (by simpa using ht)
     simpa[Nat.add_assoc,Nat.add_comm 1 m] using this
theorem auY {U U':Env} {v0:Nat} {vks:List VK} {θ:List E} (hag:Ag v0 U U') (hl:θ.length=vks.length) (h:varsD U' v0 vks=(argE vks θ).D U):Giv v0 vks θ U U':=
 ⟨hag,fun m k t hk ht=>(acw vks θ v0 hl h m t ht).1 k hk,fun m t hk ht=>(acw vks θ v0 hl h m t ht).2.1 hk,fun m ks t hk ht=>(acw vks θ v0 hl h m t ht).2.2 ks hk⟩
def qp (v:Nat):List CE->List C×List VK
 | []=>([],[])
 | some k::ks=>(.int k (.var v)::(qp (v+1) ks).1,.int k::(qp (v+1) ks).2)
 | none::ks=>(.bool (.bw v)::(qp (v+1) ks).1,.bool::(qp (v+1) ks).2)
def aa5 (heap:List Ob) (b o:Nat) (c:C):Option (List Ob):=match heap[b]? with
 | some (.box cs ty)=>if o<cs.length then some (heap.set b (.box (cs.set o c) ty)) else none
 | _=>none
def akO (heap:List Ob) (b o:Nat) (l:List C):Option (List Ob):=match heap[b]? with
 | some (.box cs ty)=>if o+l.length<=cs.length then some (heap.set b (.box (cs.take o++(l++cs.drop (o+l.length))) ty)) else none
 | _=>none
def TM.only (m:TM) (ks:List Nat):TM:=⟨ks.foldl (fun T k=>T.set (Nat.log2 m.n+1) k (m.cur.get k)) (.leaf .top),m.n,m.old⟩
def absP (v0:Nat) (p:Pl) (x:St×List VK):Option (St×List VK):=
 let v:=v0+x.2.length
 match p with
 | .top t=>if Nat.blt t x.1.n then some ({x.1 with tmps:=x.1.tmps.set t .top},x.2) else none
 | .tmpI t k=>if Nat.blt t x.1.n then some ({x.1 with tmps:=x.1.tmps.set t (.one (.int k (.var v)))},x.2++[.int k]) else none
 | .tmpB t=>if Nat.blt t x.1.n then some ({x.1 with tmps:=x.1.tmps.set t (.one (.bool (.bw v)))},x.2++[.bool]) else none
 | .tmpA t ks=>if Nat.blt t x.1.n then some ({x.1 with tmps:=x.1.tmps.set t (.agg (qp v ks).1)},x.2++(qp v ks).2) else none
 | .tmpS t ks ty=>if Nat.blt t x.1.n then some (⟨x.1.tmps.set t (.one (.sl x.1.heap.length)),x.1.heap++[.row ⟨ks,ty,.lw v,true,kdOf ks⟩]⟩,x.2++[.list ks]) else none
 | .tmpX t ks ty=>if Nat.blt t x.1.n then some (⟨x.1.tmps.set t (.one (.ptr x.1.heap.length 0)),x.1.heap++[.box (qp v ks).1 ty]⟩,x.2++(qp v ks).2) else none
 | .cI b o k=>(aa5 x.1.heap b o (.int k (.var v))).map fun h=>(⟨x.1.tmps,h⟩,x.2++[.int k])
 | .celB b o=>(aa5 x.1.heap b o (.bool (.bw v))).map fun h=>(⟨x.1.tmps,h⟩,x.2++[.bool])
 | .only ks=>some (⟨x.1.tmps.only ks,x.1.heap⟩,x.2)
 | .cels b o ks=>(akO x.1.heap b o (qp v ks).1).map fun h=>(⟨x.1.tmps,h⟩,x.2++(qp v ks).2)
 | .cT b o ks ty=>(aa5 x.1.heap b o (.sl x.1.heap.length)).map fun h=>(⟨x.1.tmps,h++[.row ⟨ks,ty,.lw v,true,kdOf ks⟩]⟩,x.2++[.list ks])
 | .celV b o ks ty=>(aa5 x.1.heap b o (.sl x.1.heap.length)).map fun h=>(⟨x.1.tmps,h++[.row ⟨ks,ty,.lw v,false,kdOf ks⟩]⟩,x.2++[.list ks])
 | .row id=>match x.1.heap[id]? with
   | some (.row r)=>some (⟨x.1.tmps,x.1.heap.set id (.row {r with l:=.lw v})⟩,x.2++[.list r.ks])
   | _=>none
 | .gone id=>if id<x.1.heap.length then some (⟨x.1.tmps,x.1.heap.set id .gone⟩,x.2) else none
 | .ask=>none
def absL (v0:Nat):List Pl->St×List VK->Option (St×List VK)
 | [],x=>some x
 | p::l,x=>(absP v0 p x).bind (absL v0 l)
def ym:List CE->List C->Option (List E)
 | [],[]=>some []
 | some k::ks,.int k' e::cs=>if bc k k' then(ym ks cs).map (e::·) else none
 | none::ks,.bool e::cs=>(ym ks cs).map (e::·)
 | _,_=>none
def ah9 (heap:List Ob):C->Option (E×Option Nat)
 | .sl id=>(rwS heap id).map fun r=>(r.l,some id)
 | .nsl=>some (.ln,none)
 | _=>none
def argP (p:Pl) (s:St):Option (List E×List (Option Nat)):=
 match p with
 | .top _=>some ([],[])
 | .tmpI t _=>match s.tmps.get? t with | some (.one (.int _ e))=>some ([e],[]) | _=>none
 | .tmpB t=>match s.tmps.get? t with | some (.one (.bool e))=>some ([e],[]) | _=>none
 | .tmpA t ks=>match s.tmps.get? t with | some (.agg cs)=>(ym ks cs).map fun l=>(l,[]) | _=>none
 | .tmpS t _ _=>match s.tmps.get? t with | some (.one c)=>(ah9 s.heap c).map fun x=>([x.1],[x.2]) | _=>none
 | .tmpX t ks _=>match s.tmps.get? t with | some (.one (.ptr b 0))=>(match s.heap[b]? with | some (.box cs _)=>(ym ks cs).map fun l=>(l,[some b]) | _=>none) | _=>none
 | .cI b o _=>match ldS s.heap b o with | some (.int _ e)=>some ([e],[]) | _=>none
 | .celB b o=>match ldS s.heap b o with | some (.bool e)=>some ([e],[]) | _=>none
 | .only _=>some ([],[])
 | .cels b o ks=>match s.heap[b]? with | some (.box cs _)=>((seg cs o ks.length).bind (ym ks)).map fun l=>(l,[]) | _=>none
 | .cT b o _ _=>match ldS s.heap b o with | some c=>(ah9 s.heap c).map fun x=>([x.1],[x.2]) | none=>none
 | .celV b o _ _=>match ldS s.heap b o with | some c=>(ah9 s.heap c).map fun x=>([x.1],[x.2]) | none=>none
 | .row id=>(rwS s.heap id).map fun r=>([r.l],[])
 | .gone _=>some ([],[])
 | .ask=>none
def argL:List Pl->St->Option (List E×List (Option Nat))
 | [],_=>some ([],[])
 | p::l,s=>match argP p s,argL l s with
   | some x,some y=>some (x.1++y.1,x.2++y.2)
   | _,_=>none
structure Mt where
 v0:Nat
 vks:List VK
 θ:List E
 h0:Nat
 ex:List (Option Nat)
 hd:List Ob
def Mt.sig (m:Mt) (a:Nat):Option (Option Nat):=match m.hd[a]? with
 | some (.box _ _) | some (.row _) | some (.loop _)=>if a<m.h0 then some (some a) else m.ex[a-m.h0]?
 | _=>none
def Mt.okI (m:Mt) (e e':E):Bool:=
 match e with
 | .var n=>if m.v0<=n then(match m.vks[n-m.v0]?,m.θ[n-m.v0]? with | some (.int _),some t=>t.same e' | _,_=>false) else(match e' with | .var n'=>Nat.beq n n' | _=>false)
 | e=>e.same e'&&e.sc m.v0
def Mt.okB (m:Mt) (e e':E):Bool:=
 match e with
 | .bw n=>if m.v0<=n then(match m.vks[n-m.v0]?,m.θ[n-m.v0]? with | some .bool,some t=>t.same e' | _,_=>false) else(match e' with | .bw n'=>Nat.beq n n' | _=>false)
 | e=>e.same e'&&e.sc m.v0
def Mt.okR (m:Mt) (e e':E):Bool:=
 match e with
 | .lw n=>if m.v0<=n then(match m.vks[n-m.v0]?,m.θ[n-m.v0]? with | some (.list _),some t=>t.same e' | _,_=>false) else(match e' with | .lw n'=>Nat.beq n n' | _=>false)
 | e=>e.same e'&&e.sc m.v0
def Mt.okId (m:Mt) (b b':Nat):Bool:=match m.sig b with | some (some x)=>Nat.beq x b' | _=>false
def Mt.okP (m:Mt):Option (Bool×Nat×Nat)->Option (Bool×Nat×Nat)->Bool
 | none,none=>true
 | some (true,b,o),some (true,b',o')=>Nat.beq o o'&&m.okId b b'
 | some (false,b,o),some (false,b',o')=>Nat.beq o o'&&Nat.beq b b'
 | _,_=>false
def Mt.okPs (m:Mt):List (Option (Bool×Nat×Nat))->List (Option (Bool×Nat×Nat))->Bool
 | [],[]=>true
 | x::l,y::r=>m.okP x y&&m.okPs l r
 | _,_=>false
def Mt.okC (m:Mt) (c d:C):Bool:=
 match c with
 | .int k e=>(match d with | .int k' e'=>bc k k'&&m.okI e e' | _=>false)
 | .bool e=>(match d with | .bool e'=>m.okB e e' | _=>false)
 | .ptr b o=>(match d with | .ptr b' o'=>Nat.beq o o'&&m.okId b b' | _=>false)
 | .fp b o=>(match d with | .fp b' o'=>Nat.beq b b'&&Nat.beq o o' | _=>false)
 | .fn f=>(match d with | .fn f'=>Nat.beq f f' | _=>false)
 | .np=>(match d with | .np=>true | _=>false)
 | .undef=>(match d with | .undef=>true | _=>false)
 | .sl id=>(match d with | .sl id'=>m.okId id id' | .nsl=>(match m.sig id with | some none=>true | _=>false) | _=>false)
 | .ep id z e o=>(match d with | .ep id' z' e' o'=>m.okId id id'&&(Nat.beq z z'&&(m.okI e e'&&Nat.beq o o')) | _=>false)
 | .nsl=>(match d with | .nsl=>true | _=>false)
 | .nf=>(match d with | .nf=>true | _=>false)
 | .nmp=>(match d with | .nmp=>true | _=>false)
 | .pe b o n sz e off=>(match d with | .pe b' o' n' sz' e' off'=>m.okId b b'&&(Nat.beq o o'&&(Nat.beq n n'&&(Nat.beq sz sz'&&(m.okI e e'&&Nat.beq off off')))) | _=>false)
 | .wn id sz lo hi mx=>(match d with | .wn id' sz' lo' hi' mx'=>m.okId id id'&&(Nat.beq sz sz'&&(m.okI lo lo'&&(m.okI hi hi'&&(match mx,mx' with | none,none=>true | some x,some y=>m.okI x y | _,_=>false)))) | _=>false)
 | .aw b o n sz lo hi mx=>(match d with | .aw b' o' n' sz' lo' hi' mx'=>m.okId b b'&&(Nat.beq o o'&&(Nat.beq n n'&&(Nat.beq sz sz'&&(m.okI lo lo'&&(m.okI hi hi'&&m.okI mx mx'))))) | _=>false)
 | .str e=>(match d with | .str e'=>m.okR e e' | _=>false)
 | .mp id=>(match d with | .mp id'=>m.okId id id' | _=>false)
 | .itp id mid=>(match d with | .itp id' mid'=>m.okId id id'&&m.okId mid mid' | _=>false)
 | .yld id=>(match d with | .yld id'=>m.okId id id' | _=>false)
 | .clo g fs ps=>(match d with | .clo g' fs' ps'=>Nat.beq g g'&&(m.okPs fs fs'&&m.okPs ps ps') | _=>false)
def Mt.okCs (m:Mt):List C->List C->Bool
 | [],[]=>true
 | c::cs,d::ds=>m.okC c d&&m.okCs cs ds
 | _,_=>false
def Mt.okW (m:Mt):List C->List C->Nat->List VK->List E->Bool
 | [],[],_,_,_=>true
 | c::cs,d::ds,n,vs,ts=>match c with
   | .int k (.var i)=>bif Nat.beq i n then(match vs with
    | .int _::vs'=>(match ts with
      | t::ts'=>(match d with
        | .int k' e'=>bif bc k k'&&t.same e' then m.okW cs ds (n+1) vs' ts' else false
        | _=>false)
      | []=>false)
    | _=>false)
     else(bif m.okC (.int k (.var i)) d then(bif Nat.ble m.v0 i then m.okW cs ds (i+1) (m.vks.drop (i+1-m.v0)) (m.θ.drop (i+1-m.v0)) else m.okW cs ds n vs ts) else false)
   | c=>bif m.okC c d then m.okW cs ds n vs ts else false
 | _,_,_,_,_=>false
theorem rz {α:Type} {l:List α} {i:Nat} {a:α} {r:List α} (h:l.drop i=a::r):l[i]? =some a/\l.drop (i+1)=r:=by
 constructor
 ·have:=List.getElem?_drop (xs:=l) (i:=i) (j:=0)
  rw[h] at this
  simpa using this.symm
 ·rw[<-List.drop_drop,h];rfl
theorem xD {m:Mt}:∀{cs ds:List C} {n:Nat} {vs:List VK} {ts:List E},m.v0<=n->m.vks.drop (n-m.v0)=vs->m.θ.drop (n-m.v0)=ts->m.okW cs ds n vs ts=true->m.okCs cs ds=true
 | [],[],_,_,_,_,_,_,_=>rfl
 | [],_::_,_,_,_,_,_,_,h=>by cases h
 | _::_,[],_,_,_,_,_,_,h=>by cases h
 | c::cs,d::ds,n,vs,ts,hn,h1,h2,h=>by
   have step:∀{c:C},(bif m.okC c d then m.okW cs ds n vs ts else false)=true->m.okCs (c::cs) (d::ds)=true:=fun {c} h=>by
    cases hc:m.okC c d with
    | false=>rw[hc] at h;cases h
    | true=>
      rw[hc] at h
      simp only[Mt.okCs,hc,Bool.true_and]
      exact xD hn h1 h2 h
   unfold Mt.okW at h
   split at h
   ·rename_i k i
    cases hb:Nat.beq i n with
    | false=>
      rw[hb] at h
      simp only[cond_false] at h
      cases hc:m.okC (.int k (.var i)) d with
      | false=>rw[hc] at h;cases h
      | true=>
        rw[hc] at h
        simp only[Mt.okCs,hc,Bool.true_and]
        cases hl:Nat.ble m.v0 i with
        | false=>rw[hl] at h;exact xD hn h1 h2 h
        | true=>
          rw[hl] at h
          exact xD (Nat.le_succ_of_le (Nat.le_of_ble_eq_true hl)) rfl rfl h
    | true=>
      rw[hb] at h
      simp only[cond_true] at h
      have:=thm1 hb
      subst this
      split at h
      ·rename_i vs'
       split at h
       ·rename_i t ts'
        split at h
        ·rename_i k' e'
         cases hc:bc k k'&&t.same e' with
         | false=>rw[hc] at h;cases h
         | true=>
           rw[hc] at h
           rw[thm0] at hc
           obtain⟨a1,a2⟩:=rz h1
           obtain⟨b1,b2⟩:=rz h2
           have e1:i+1-m.v0=i-m.v0+1:=by omega
           have hk:m.okC (.int k (.var i)) (.int k' e')=true:=by
            simp only[Mt.okC,Mt.okI,if_pos hn,a1,b1,hc.1,hc.2,Bool.and_self]
           simp only[Mt.okCs,hk,Bool.true_and]
           exact xD (Nat.le_succ_of_le hn) (by rw[e1];exact a2) (by rw[e1];exact b2) h
        ·cases h
       ·cases h
      ·cases h
   ·exact step h
def Mt.okL (m:Mt) (cs ds:List C):Bool:=m.okW cs ds m.v0 m.vks m.θ
theorem an8 {m:Mt} {cs ds:List C} (h:m.okL cs ds=true):m.okCs cs ds=true:=xD (Nat.le_refl _) (by simp) (by simp) h
def Mt.okT (m:Mt):List (Bool×List C)->List (Bool×List C)->Bool
 | [],[]=>true
 | (t,cs)::l,(t',ds)::r=>(t==t')&&(m.okCs cs ds&&m.okT l r)
 | _,_=>false
def Mt.okV (m:Mt):V->V->Bool
 | .top,_=>true
 | .one c,.one d=>m.okC c d
 | .agg cs,.agg ds=>m.okL cs ds
 | .tup l,.tup r=>m.okT l r
 | _,_=>false
def Mt.okLf (m:Mt) (v:V):TT->Bool
 | .leaf u=>m.okV v u
 | .node l r=>match v with
   | .top=>true
   | v=>m.okLf v l&&m.okLf v r
def Mt.okTT (m:Mt):TT->TT->Bool
 | .leaf v,t=>m.okLf v t
 | .node l r,t=>m.okTT l t.fst&&m.okTT r t.snd
def Mt.okOld (m:Mt):List (TT×Nat)->List (TT×Nat)->Bool
 | [],[]=>true
 | (t,n)::l,(t',n')::l'=>Nat.beq n n'&&(m.okTT t t'&&m.okOld l l')
 | _,_=>false
def Mt.okVs (m:Mt) (l r:TM):Bool:=Nat.beq l.n r.n&&(m.okTT l.cur r.cur&&m.okOld l.old r.old)
def Mt.okK (m:Mt):RK->RK->Bool
 | .sl,.sl=>true
 | .map a b c,.map a' b' c'=>Nat.beq a a'&&((b==b')&&(c==c'))
 | .it mid n,.it mid' n'=>m.okId mid mid'&&m.okI n n'
 | .ev,.ev=>true
 | .tab,.tab=>true
 | _,_=>false
def afY:Option Sig->Option Sig->Bool
 | none,none=>true
 | some .normal,some .normal=>true
 | some .ret,some .ret=>true
 | some (.exit a),some (.exit b)=>Nat.beq a b
 | _,_=>false
def LS.same:LS->LS->Bool
 | .ready,.ready=>true
 | .busy,.busy=>true
 | .done,.done=>true
 | _,_=>false
def aiH (x y:Lp):Bool:=LS.same x.st y.st&&afY x.pend y.pend
theorem aiG {x y:Lp} (h:aiH x y=true):x=y:=by
 obtain⟨a,b⟩:=x
 obtain⟨c,d⟩:=y
 simp only[aiH,thm0] at h
 have h1:a=c:=by
  have:=h.1
  cases a<;>cases c<;>first | rfl | cases this
 have h2:b=d:=by
  have:=h.2
  rcases b with _ | (_ | _ | _)<;>rcases d with _ | (_ | _ | _)<;>first | rfl | (simp[afY] at this;done) | skip
  rw[thm1 this]
 rw[h1,h2]
def Mt.okOb (m:Mt) (heap:List Ob) (a:Nat):Ob->Bool
 | .gone=>true
 | .box cs ty=>match m.sig a with
   | some (some b)=>(match heap[b]? with | some (.box ds ty')=>Nat.beq ty ty'&&m.okL cs ds | _=>false)
   | _=>false
 | .row r=>match m.sig a with
   | some (some b)=>(match heap[b]? with | some (.row q)=>cd r.ks q.ks&&(Nat.beq r.ty q.ty&&((r.own==q.own)&&(m.okR r.l q.l&&m.okK r.kd q.kd))) | _=>false)
   | some none=>(match r.ks with | []=>false | _::_=>m.okR r.l .ln&&r.kd.fits r.ks)
   | none=>false
 | .loop y=>match m.sig a with
   | some (some b)=>(match heap[b]? with | some (.loop y')=>aiH y y' | _=>false)
   | _=>false
def Mt.okHeap (m:Mt) (heap:List Ob):Nat->List Ob->Bool
 | _,[]=>true
 | a,ob::l=>m.okOb heap a ob&&m.okHeap heap (a+1) l
def Ob.isGone:Ob->Bool
 | .gone=>true
 | _=>false
def exOk (hd:List Ob) (h0:Nat):List (Option Nat)->Bool
 | []=>true
 | none::l=>exOk hd h0 l
 | some b::l=>(if b<h0 then(match hd[b]? with | some ob=>ob.isGone | none=>false) else true)&&((l.all fun x=>match x with | some b'=>!Nat.beq b b' | none=>true)&&exOk hd h0 l)
def acq (heap:List Ob) (b:Nat):Bool:=match heap[b]? with
 | some (.row r)=>!r.own
 | _=>false
def aaP (heap:List Ob):Option Nat->Option Nat
 | some b=>if acq heap b then none else some b
 | none=>none
def lj (vk:List VK):List VK->List E->Bool
 | [],[]=>true
 | .int k::ks,e::es=>e.rng vk k&&lj vk ks es
 | .bool::ks,_::es=>lj vk ks es
 | .list ks0::ks,e::es=>e.lok vk ks0&&lj vk ks es
 | _,_=>false
def zL (vk:List VK):List VK->List E->Rm->Bool
 | [],[],_=>true
 | .int k::ks,e::es,m=>match e.rngW vk k m with
   | some m'=>zL vk ks es m'
   | none=>false
 | .bool::ks,_::es,m=>zL vk ks es m
 | .list ks0::ks,e::es,m=>e.lok vk ks0&&zL vk ks es m
 | _,_,_=>false
def rngθ (vk:List VK) (vks:List VK) (θ:List E):Bool:=zL vk vks θ (Rm.ini vk)
theorem lg {vk:List VK}:∀{vks:List VK} {θ:List E} {m:Rm},m.ok vk->zL vk vks θ m=true->lj vk vks θ=true
 | [],[],_,_,_=>rfl
 | .int k::ks,e::es,m,hm,h=>by
   simp only[zL] at h
   split at h
   ·rename_i m' hw
    obtain⟨h1,h2⟩:=zM hm hw
    simp only[lj,h1,lg h2 h,Bool.and_self]
   ·cases h
 | .bool::ks,_::es,m,hm,h=>lg (vks:=ks) (θ:=es) hm h
 | .list ks0::ks,e::es,m,hm,h=>by
   simp only[zL,thm0] at h
   simp only[lj,h.1,lg hm h.2,Bool.and_self]
def zW (v0:Nat) (hd:List Ob):Nat->List VK->Bool
 | _,[]=>true
 | n,.list ks::l=>(hd.any fun ob=>match ob with | .row r=>(match r.l with | .lw m=>Nat.beq m (v0+n) | _=>false)&&cd r.ks ks | _=>false)&&zW v0 hd (n+1) l
 | n,_::l=>zW v0 hd (n+1) l
def Mt.ok (m:Mt) (cx:Cx) (vk:List VK) (tmps:TM) (s:St):Bool:=
 (m.okVs tmps s.tmps&&m.okHeap s.heap 0 m.hd)&&(exOk m.hd m.h0 (m.ex.map (aaP s.heap))&&((cx.fb.all fun cs=>m.okCs cs cs)&&(rngθ vk m.vks m.θ&&zW m.v0 m.hd 0 m.vks)))
section
variable {m:Mt} {U U':Env} {j:J}
theorem jt (hg:Giv m.v0 m.vks m.θ U U') {e e':E} (h:m.okI e e'=true):e.I U'=e'.I U:=by
 unfold Mt.okI at h
 split at h
 ·rename_i n
  split at h
  ·rename_i hn
   split at h
   ·rename_i k t hk ht
    have h1:=hg.i _ _ t hk ht
    rw[show m.v0+(n-m.v0)=n by omega] at h1
    rw[<-E.same_eq h]
    exact h1
   ·cases h
  ·rename_i hn
   split at h
   ·rename_i n'
    rw[<-thm1 h]
    exact(hg.ag n (by omega)).1.symm
   ·cases h
 ·rw[thm0] at h
  rw[<-E.same_eq h.1]
  exact(E.sc_eq hg.ag _ h.2).1.symm
theorem auv (hg:Giv m.v0 m.vks m.θ U U') {e e':E} (h:m.okB e e'=true):e.B U'=e'.B U:=by
 unfold Mt.okB at h
 split at h
 ·rename_i n
  split at h
  ·rename_i hn
   split at h
   ·rename_i t hk ht
    have h1:=hg.b _ t hk ht
    rw[show m.v0+(n-m.v0)=n by omega] at h1
    rw[<-E.same_eq h]
    exact h1
   ·cases h
  ·rename_i hn
   split at h
   ·rename_i n'
    rw[<-thm1 h]
    exact(hg.ag n (by omega)).2.1.symm
   ·cases h
 ·rw[thm0] at h
  rw[<-E.same_eq h.1]
  exact(E.sc_eq hg.ag _ h.2).2.1.symm
theorem aiy (hg:Giv m.v0 m.vks m.θ U U') {e e':E} (h:m.okR e e'=true):e.R U'=e'.R U:=by
 unfold Mt.okR at h
 split at h
 ·rename_i n
  split at h
  ·rename_i hn
   split at h
   ·rename_i ks t hk ht
    have h1:=hg.l _ _ t hk ht
    rw[show m.v0+(n-m.v0)=n by omega] at h1
    rw[<-E.same_eq h]
    exact h1
   ·cases h
  ·rename_i hn
   split at h
   ·rename_i n'
    rw[<-thm1 h]
    exact(hg.ag n (by omega)).2.2.symm
   ·cases h
 ·rw[thm0] at h
  rw[<-E.same_eq h.1]
  exact(E.sc_eq hg.ag _ h.2).2.2.2.1.symm
def nilSV:SV:=⟨none,0,0,[]⟩
theorem jV {o:Bool} {k:Nat}:¬nilSV.blk o=some k:=fun h=>by have:=aL h;cases this
def Mt.J (m:Mt) (j:J):J:=
 ⟨fun b=>match m.sig b with | some (some x)=>j.b x | _=>none,fun id=>match m.sig id with | some (some x)=>j.s x | some none=>some nilSV | none=>none,j.f,⟨fun b=>match m.sig b with | some (some x)=>j.g.y x | _=>none,j.g.z⟩⟩
theorem js {b b':Nat} (h:m.okId b b'=true):(m.J j).b b=j.b b'/\(m.J j).s b=j.s b':=by
 unfold Mt.okId at h
 split at h
 ·rename_i x hx
  rw[<-thm1 h]
  simp only[Mt.J,hx,and_self]
 ·cases h
theorem auu {b b':Nat} (h:m.okId b b'=true):(m.J j).g.y b=j.g.y b':=by
 unfold Mt.okId at h
 split at h
 ·rename_i x hx
  rw[<-thm1 h]
  simp only[Mt.J,hx]
 ·cases h
theorem aus {x y:Option (Bool×Nat×Nat)} (h:m.okP x y=true) {v:Value} (hd:ptrV j y=some v):ptrV (m.J j) x=some v:=by
 unfold Mt.okP at h
 split at h
 ·exact hd
 ·simp only[thm0] at h
  have:=thm1 h.1
  subst this
  simp only[ptrV] at hd ⊢
  rw[(js h.2).1];exact hd
 ·simp only[thm0] at h
  rw[thm1 h.1,thm1 h.2]
  exact hd
 ·cases h
theorem zR:∀{l r:List (Option (Bool×Nat×Nat))},m.okPs l r=true->∀{vs:List Value},dH j r=some vs->dH (m.J j) l=some vs
 | [],[],_,vs,hd=>hd
 | x::l,y::r,h,vs,hd=>by
   simp only[Mt.okPs,thm0] at h
   simp only[dH] at hd ⊢
   cases hx:ptrV j y with
   | none=>rw[hx] at hd;cases hd
   | some v=>
     cases hl:dH j r with
     | none=>rw[hx,hl] at hd;cases hd
     | some us=>
       rw[hx,hl] at hd
       rw[aus h.1 hx,zR h.2 hl]
       exact hd
def kdSm (U U':Env):RK->RK->Prop
 | .sl,.sl=>True
 | .map a b c,.map a' b' c'=>a=a'/\b=b'/\c=c'
 | .it _ n,.it _ n'=>n.I U'=n'.I U
 | .ev,.ev=>True
 | .tab,.tab=>True
 | _,_=>False
theorem aut (hg:Giv m.v0 m.vks m.θ U U') {a b:RK} (h:m.okK a b=true):kdSm U U' a b:=by
 cases a<;>cases b<;>simp only[Mt.okK] at h<;>first | exact Bool.noConfusion h | skip
 ·trivial
 ·simp only[thm0,db] at h
  exact⟨thm1 h.1,h.2.1,h.2.2⟩
 ·simp only[thm0] at h
  exact jt hg h.2
 ·trivial
 ·trivial
theorem RowOk.swap {base:Nat} {w:World} {v:SV} {r q:RowOb} (e1:r.ks=q.ks) (e2:r.ty=q.ty) (e3:r.own=q.own) (e4:r.l.R U'=q.l.R U) (e5:kdSm U U' r.kd q.kd) (h:RowOk U base w v q):RowOk U' base w v r:=by
 rcases h.cases with⟨hk,h6⟩ | ⟨hk,h6⟩ | ⟨hk,h6⟩
 ·have hk':r.kd=.sl:=by
   rw[hk] at e5
   cases hr:r.kd<;>rw[hr] at e5<;>first | rfl | exact e5.elim
  refine SlOk.row ⟨?_,?_,?_,by rw[e3];exact h6.lt,fun ho=> ?_,?_⟩ hk'
  ·rw[e4];exact h6.n
  ·rw[e1,e4];exact h6.rows
  ·rw[e1];exact h6.pos
  ·rw[e1,e2,e4];exact h6.own (by rw[<-e3];exact ho)
  ·rw[e1,e4];exact h6.rd
 ·obtain⟨g,ob,h1,h2,h3,h4⟩:=h6.at'
  refine HdOk.row ⟨by rw[e3];exact h6.own,by rw[e1,e4];exact h6.rows,h6.c,g,ob,h1,h2,h3,?_⟩ ?_
  ·unfold obOf at h4 ⊢
   cases hr:r.kd<;>cases hq:q.kd<;>rw[hr,hq] at e5<;>first | exact e5.elim | skip
   ·rw[hq] at hk;cases hk
   ·rw[hq] at h4
    obtain⟨rfl,rfl,rfl⟩:=e5
    rw[e1,e4]
    exact h4
   ·rw[hq] at h4
    have e5':_=_:=e5
    dsimp only at h4 ⊢
    rw[e1,e4,e5']
    exact h4
   ·rw[hq] at hk;cases hk
   ·rw[hq] at h4;exact h4
  ·cases hr:r.kd<;>cases hq:q.kd<;>rw[hr,hq] at e5<;>first | exact e5.elim | rfl | (rw[hq] at hk;cases hk)
 ·have hk':r.kd=.ev:=by
   rw[hk] at e5
   cases hr:r.kd<;>rw[hr] at e5<;>first | rfl | exact e5.elim
  obtain⟨ins,g1,g2,g3,g4⟩:=h6.at'
  exact EvOk.row ⟨by rw[e1];exact h6.ks,by rw[e4];exact h6.n,by rw[e1,e4];exact h6.rows,by rw[e3];exact h6.lt,by rw[e3];exact h6.zb,ins,by rw[e4];exact g1,by rw[e2,e3,e4];exact g2,by rw[e4];exact g3,by rw[e4];exact g4⟩ hk'
theorem aiz (hg:Giv m.v0 m.vks m.θ U U') {c d:C} (h:m.okC c d=true) {v:Value} (hd:d.den U j=some v):c.den U' (m.J j)=some v:=by
 cases c with
 | int k e=>
   simp only[Mt.okC] at h
   split at h
   ·simp only[thm0] at h
    simp only[C.den] at hd ⊢
    rw[aA h.1,jt hg h.2];exact hd
   ·cases h
 | bool e=>
   simp only[Mt.okC] at h
   split at h
   ·simp only[C.den] at hd ⊢;rw[auv hg h];exact hd
   ·cases h
 | ptr b o=>
   simp only[Mt.okC] at h
   split at h
   ·simp only[thm0] at h
    simp only[C.den] at hd ⊢
    rw[thm1 h.1,(js h.2).1];exact hd
   ·cases h
 | fp b o=>
   simp only[Mt.okC] at h
   split at h
   ·simp only[thm0] at h
    rw[thm1 h.1,thm1 h.2];exact hd
   ·cases h
 | fn f=>
   simp only[Mt.okC] at h
   split at h
   ·rw[thm1 h];exact hd
   ·cases h
 | np=>simp only[Mt.okC] at h;split at h<;>first | exact hd | cases h
 | undef=>simp only[Mt.okC] at h;split at h<;>first | exact hd | cases h
 | nsl=>simp only[Mt.okC] at h;split at h<;>first | exact hd | cases h
 | nf=>simp only[Mt.okC] at h;split at h<;>first | exact hd | cases h
 | nmp=>simp only[Mt.okC] at h;split at h<;>first | exact hd | cases h
 | clo g fs ps=>
   simp only[Mt.okC] at h
   split at h
   ·rename_i g' fs' ps'
    simp only[thm0] at h
    obtain⟨x,y,hx,hy,rfl⟩:=eM (show cloV g' (dH j fs') (dH j ps')=some v from hd)
    simp only[C.den,zR h.2.1 hx,zR h.2.2 hy,cloV,thm1 h.1]
   ·cases h
 | sl id=>
   simp only[Mt.okC] at h
   split at h
   ·simp only[C.den] at hd ⊢
    rw[(js h).2];exact hd
   ·split at h
    ·rename_i hs
     cases hd
     simp only[C.den,Mt.J,hs]
     rfl
    ·cases h
   ·cases h
 | pe b o n sz e off=>
   simp only[Mt.okC] at h
   split at h
   ·simp only[thm0] at h
    simp only[C.den] at hd ⊢
    rw[(js h.1).1,thm1 h.2.1,thm1 h.2.2.2.1,jt hg h.2.2.2.2.1,thm1 h.2.2.2.2.2];exact hd
   ·cases h
 | yld id=>
   simp only[Mt.okC] at h
   split at h
   ·simp only[C.den] at hd ⊢
    rw[auu h];exact hd
   ·cases h
 | mp id=>
   simp only[Mt.okC] at h
   split at h
   ·simp only[C.den] at hd ⊢
    rw[(js h).2];exact hd
   ·cases h
 | wn id sz lo hi mx=>
   simp only[Mt.okC] at h
   split at h
   ·rename_i id' sz' lo' hi' mx'
    simp only[thm0] at h
    obtain⟨h1,h2,h3,h4,h5⟩:=h
    have hm:∀c,mxN U' mx c=mxN U mx' c:=fun c=>by
     cases mx<;>cases mx'<;>first | rfl | exact Bool.noConfusion h5 | (simp only[mxN,jt hg h5])
    simp only[C.den] at hd ⊢
    simp only[(js h1).2,thm1 h2,jt hg h3,jt hg h4,hm];exact hd
   ·cases h
 | aw b o n sz lo hi mx=>
   simp only[Mt.okC] at h
   split at h
   ·simp only[thm0] at h
    obtain⟨h1,h2,h3,h4,h5,h6,h7⟩:=h
    simp only[C.den] at hd ⊢
    rw[(js h1).1,thm1 h2,thm1 h3,thm1 h4,jt hg h5,jt hg h6,jt hg h7];exact hd
   ·cases h
 | str e=>
   simp only[Mt.okC] at h
   split at h
   ·simp only[C.den] at hd ⊢
    rw[aiy hg h];exact hd
   ·cases h
 | itp id mid=>
   simp only[Mt.okC] at h
   split at h
   ·simp only[thm0] at h
    simp only[C.den] at hd ⊢
    rw[(js h.1).2,(js h.2).2];exact hd
   ·cases h
 | ep id z e o=>
   simp only[Mt.okC] at h
   split at h
   ·simp only[thm0] at h
    simp only[C.den] at hd ⊢
    rw[(js h.1).2,thm1 h.2.1,jt hg h.2.2.1,thm1 h.2.2.2];exact hd
   ·cases h
theorem pL (hg:Giv m.v0 m.vks m.θ U U'):∀{cs ds:List C},m.okCs cs ds=true->∀{vs:List Value},denL U j ds=some vs->denL U' (m.J j) cs=some vs
 | [],[],_,vs,h=>h
 | c::cs,d::ds,h,vs,hd=>by
   simp only[Mt.okCs,thm0] at h
   simp only[denL] at hd ⊢
   cases hc:d.den U j with
   | none=>rw[hc] at hd;cases hd
   | some v=>
     cases hl:denL U j ds with
     | none=>rw[hc,hl] at hd;cases hd
     | some l=>
       rw[hc,hl] at hd
       rw[aiz hg h.1 hc,pL hg h.2 hl]
       exact hd
theorem an7 (hg:Giv m.v0 m.vks m.θ U U'):∀{cs ds:List (Bool×List C)},m.okT cs ds=true->∀{vs:List Value},bN U j ds=some vs->bN U' (m.J j) cs=some vs
 | [],[],_,vs,h=>h
 | (t,cs)::l,(t',ds)::r,h,vs,hd=>by
   simp only[Mt.okT,thm0,db] at h
   obtain⟨rfl,h1,h2⟩:=h
   simp only[bN] at hd ⊢
   cases hc:den0 U j (t,ds) with
   | none=>rw[hc] at hd;cases hd
   | some v=>
     cases hl:bN U j r with
     | none=>rw[hc,hl] at hd;cases hd
     | some us=>
       rw[hc,hl] at hd
       have h3:den0 U' (m.J j) (t,cs)=some v:=by
        cases t with
        | true=>
          simp only[den0,thm4] at hc ⊢
          obtain⟨vs',hv,rfl⟩:=hc
          exact⟨vs',pL hg h1 hv,rfl⟩
        | false=>
          match ds,hc with
          | [d],hc=>
            match cs,h1 with
            | [c],h1=>
              simp only[Mt.okCs,Bool.and_true] at h1
              exact aiz hg h1 hc
            | _::_::_,h1=>simp[Mt.okCs] at h1
       rw[h3,an7 hg h2 hl]
       exact hd
theorem aur (hg:Giv m.v0 m.vks m.θ U U') {x y:V} (h:m.okV x y=true):x=.top\/(y≠.top/\∀{v},y.den U j=some v->x.den U' (m.J j)=some v):=by
 unfold Mt.okV at h
 split at h
 ·exact .inl rfl
 ·exact .inr ⟨fun e=>(by cases e),fun hd=>aiz hg h hd⟩
 ·refine .inr ⟨fun e=>(by cases e),fun hd=> ?_⟩
  simp only[V.den,thm4] at hd ⊢
  obtain⟨l,hl,rfl⟩:=hd
  exact⟨l,pL hg (an8 h) hl,rfl⟩
 ·refine .inr ⟨fun e=>(by cases e),fun hd=> ?_⟩
  simp only[V.den,thm4] at hd ⊢
  obtain⟨l,hl,rfl⟩:=hd
  exact⟨l,an7 hg h hl,rfl⟩
 ·cases h
theorem zS {v:V}:∀{t:TT},m.okLf v t=true->∀i,m.okV v (t.get i)=true
 | .leaf u,h,i=>h
 | .node l r,h,i=>by
   rw[TT.get_node]
   by_cases hv:v=.top
   ·subst hv;rfl
   ·have h':(m.okLf v l&&m.okLf v r)=true:=by
     unfold Mt.okLf at h
     split at h
     ·exact absurd rfl hv
     ·exact h
    rw[thm0] at h'
    split
    ·exact zS h'.1 _
    ·exact zS h'.2 _
theorem uy:∀{t u:TT},m.okTT t u=true->∀i,m.okV (t.get i) (u.get i)=true
 | .leaf v,u,h,i=>zS h i
 | .node l r,u,h,i=>by
   simp only[Mt.okTT,thm0] at h
   rw[TT.get_node]
   split
   ·rename_i hi;rw[<-TT.get_fst u i hi];exact uy h.1 _
   ·rename_i hi;rw[<-TT.get_snd u i hi];exact uy h.2 _
theorem ab8:∀{l r:List (TT×Nat)},m.okOld l r=true->dJ l=dJ r/\∀(i:Nat) x y,gL l i=some x->gL r i=some y->m.okV x y=true
 | [],[],_=>⟨rfl,fun i x y h=>by cases h⟩
 | (t,n)::l,(t',n')::l',h=>by
   simp only[Mt.okOld,thm0] at h
   obtain rfl:=thm1 h.1
   obtain⟨h1,h2⟩:=ab8 h.2.2
   refine⟨by simp only[dJ,h1],fun i x y hx hy=> ?_⟩
   unfold gL at hx hy
   split at hx
   ·rename_i hi
    rw[if_pos hi] at hy
    cases hx;cases hy
    exact uy h.2.1 i
   ·rename_i hi
    rw[if_neg hi] at hy
    exact h2 _ x y hx hy
theorem ar1 {l r:TM} (h:m.okVs l r=true):l.length=r.length/\∀(i:Nat) x y,l.get? i=some x->r.get? i=some y->m.okV x y=true:=by
 simp only[Mt.okVs,thm0] at h
 obtain⟨h1,h2,h3⟩:=h
 replace h1:=thm1 h1
 obtain⟨h4,h5⟩:=ab8 h3
 refine⟨by unfold TM.length;rw[h1,h4],fun i x y hx hy=> ?_⟩
 unfold TM.get? at hx hy
 rw[<-h1] at hy
 split at hx
 ·rename_i hi
  rw[if_pos hi] at hy
  cases hx;cases hy
  exact uy h2 i
 ·rename_i hi
  rw[if_neg hi] at hy
  exact h5 _ x y hx hy
theorem xE {heap:List Ob}:∀{l:List Ob} {a:Nat},m.okHeap heap a l=true->∀(i:Nat) ob,l[i]? =some ob->m.okOb heap (a+i) ob=true
 | [],a,_,i,ob,hi=>by simp at hi
 | x::l,a,h,i,ob,hi=>by
   simp only[Mt.okHeap,thm0] at h
   cases i with
   | zero=>simp at hi;subst hi;exact h.1
   | succ i=>
     have:=xE h.2 i ob (by simpa using hi)
     rwa [show a+(i+1)=a+1+i by omega]
theorem aji {hd:List Ob} {h0:Nat}:∀{ex:List (Option Nat)},exOk hd h0 ex=true->(∀(i:Nat) b,ex[i]? =some (some b)->b<h0->∃ob,hd[b]? =some ob/\ob.isGone=true)/\∀(i i':Nat) b,ex[i]? =some (some b)->ex[i']? =some (some b)->i=i'
 | [],_=>⟨fun i b h=>by simp at h,fun i i' b h=>by simp at h⟩
 | x::l,h=>by
   have key:exOk hd h0 l=true/\∀b,x=some b->(b<h0->∃ob,hd[b]? =some ob/\ob.isGone=true)/\∀(i:Nat),l[i]? ≠some (some b):=by
    cases x with
    | none=>exact⟨h,fun b hb=>by cases hb⟩
    | some b=>
      simp only[exOk,thm0] at h
      refine⟨h.2.2,fun b' hb=> ?_⟩
      cases hb
      refine⟨fun hlt=> ?_,fun i hi=> ?_⟩
      ·have h1:=h.1
       rw[if_pos hlt] at h1
       split at h1
       ·rename_i ob hob;exact⟨ob,hob,h1⟩
       ·cases h1
      ·have h2:=thm7.1 h.2.1 _ (fq hi)
       simp at h2
   obtain⟨k1,k2⟩:=key
   obtain⟨g1,g2⟩:=aji k1
   refine⟨fun i b hi hb=> ?_,fun i i' b hi hi'=> ?_⟩
   ·cases i with
    | zero=>simp at hi;exact(k2 b hi).1 hb
    | succ i=>exact g1 i b (by simpa using hi) hb
   ·cases i with
    | zero=>
      simp at hi
      cases i' with
      | zero=>rfl
      | succ i'=>exact absurd (by simpa using hi') ((k2 b hi).2 i')
    | succ i=>
      cases i' with
      | zero=>
        simp at hi'
        exact absurd (by simpa using hi) ((k2 b hi').2 i)
      | succ i'=>rw[g2 i i' b (by simpa using hi) (by simpa using hi')]
theorem afX {heap:List Ob} (h:exOk m.hd m.h0 (m.ex.map (aaP heap))=true) {a a' x:Nat} (hv:acq heap x=false) (h1:m.sig a=some (some x)) (h2:m.sig a'=some (some x)):a=a':=by
 obtain⟨g1,g2⟩:=aji h
 have key:∀a,m.sig a=some (some x)->(a<m.h0/\a=x/\∃ob,m.hd[a]? =some ob/\ob.isGone=false)\/(m.h0<=a/\(m.ex.map (aaP heap))[a-m.h0]? =some (some x)):=by
  intro a ha
  unfold Mt.sig at ha
  split at ha
  all_goals first
   | cases ha;done
   | split at ha
     ·rename_i hob hlt
      cases ha
      exact .inl ⟨hlt,rfl,_,hob,rfl⟩
     ·exact .inr ⟨by omega,by rw[ji,ha];simp[aaP,hv]⟩
 rcases key a h1 with⟨k1,k2,ob,k3,k4⟩ | ⟨k1,k2⟩<;>rcases key a' h2 with⟨l1,l2,ob',l3,l4⟩ | ⟨l1,l2⟩
 ·omega
 ·subst k2
  obtain⟨ob1,q1,q2⟩:=g1 _ _ l2 k1
  rw[k3] at q1;cases q1
  rw[k4] at q2;cases q2
 ·subst l2
  obtain⟨ob1,q1,q2⟩:=g1 _ _ k2 l1
  rw[l3] at q1;cases q1
  rw[l4] at q2;cases q2
 ·have:=g2 _ _ _ k2 l2
  omega
theorem pK {heap:List Ob} (h:m.okHeap heap 0 m.hd=true) {a:Nat} {ob:Ob} (ha:m.hd[a]? =some ob):m.okOb heap a ob=true:=by
 have:=xE h a ob ha
 rwa [bt] at this
theorem pP {cx:Cx} {vk:List VK} {tmps:TM} {s:St} {n:Nat} {X:List Value} {W0:Wb} {w:World} {a:Act} (hok:m.ok cx vk tmps s=true) (hg:Giv m.v0 m.vks m.θ U U') (h:Rel U n X W0 cx.fbs s.fs j a w):Rel U' n X W0 cx.fbs (St.mk tmps m.hd).fs (m.J j) a w:=by
 simp only[Mt.ok,thm0] at hok
 obtain⟨⟨hT,hH⟩,hX,hF,-,-⟩:=hok
 obtain⟨hl,hat⟩:=ar1 hT
 have sigRow:∀{b:Nat} {ob:Ob},s.heap[b]? =some ob->∀{cs ty},ob=.box cs ty->s.fs.row b=none:=fun hb _ _ e=>by
  subst e;simp only[St.fs,fsOf,rowH,hb]
 have sigBox:∀{b:Nat} {ob:Ob},s.heap[b]? =some ob->∀{r},ob=.row r->s.fs.box b=none:=fun hb _ e=>by
  subst e;simp only[St.fs,fsOf,boxH,hb]
 have boxAt:∀{b cs ty},m.hd[b]? =some (.box cs ty)->∃x ds,m.sig b=some (some x)/\s.heap[x]? =some (.box ds ty)/\m.okCs cs ds=true:=by
  intro b cs ty hb
  have h1:=pK hH hb
  simp only[Mt.okOb] at h1
  split at h1
  ·rename_i x hx
   split at h1
   ·rename_i ds ty' hds
    simp only[thm0] at h1
    have:=thm1 h1.1
    subst this
    exact⟨x,ds,hx,hds,an8 h1.2⟩
   ·cases h1
  ·cases h1
 have gQ:∀{b r},m.hd[b]? =some (.row r)->(∃x q,m.sig b=some (some x)/\s.heap[x]? =some (.row q)/\r.ks=q.ks/\r.ty=q.ty/\r.own=q.own/\r.l.R U'=q.l.R U/\m.okK r.kd q.kd=true)\/(m.sig b=some none/\0<r.ks.length/\r.l.R U'=[]/\r.kd=kdOf r.ks):=by
  intro b r hb
  have h1:=pK hH hb
  simp only[Mt.okOb] at h1
  split at h1
  ·rename_i x hx
   split at h1
   ·rename_i q hq
    simp only[thm0,db] at h1
    exact .inl ⟨x,q,hx,hq,bV h1.1,thm1 h1.2.1,h1.2.2.1,aiy hg h1.2.2.2.1,h1.2.2.2.2⟩
   ·cases h1
  ·rename_i hx
   split at h1
   ·cases h1
   ·rename_i k ks hk
    rw[thm0] at h1
    exact .inr ⟨hx,by rw[hk];simp,aiy hg h1.1,RK.fits_eq h1.2⟩
  ·cases h1
 have lpAt:∀{b y},m.hd[b]? =some (.loop y)->∃x,m.sig b=some (some x)/\s.heap[x]? =some (.loop y):=by
  intro b y hb
  have h1:=pK hH hb
  simp only[Mt.okOb] at h1
  split at h1
  ·rename_i x hx
   split at h1
   ·rename_i y' hy
    exact⟨x,hx,by rw[aiG h1];exact hy⟩
   ·cases h1
  ·cases h1
 have noneSig:∀{b},(∀cs ty,m.hd[b]? ≠some (.box cs ty))->(∀r,m.hd[b]? ≠some (.row r))->(∀y,m.hd[b]? ≠some (.loop y))->m.sig b=none:=by
  intro b h1 h2 h0
  unfold Mt.sig
  split
  ·rename_i hb;exact absurd hb (h1 _ _)
  ·rename_i hb;exact absurd hb (h2 _)
  ·rename_i hb;exact absurd hb (h0 _)
  ·rfl
 have fsBox:∀b cs ty,(St.mk tmps m.hd).fs.box b=some (cs,ty)->m.hd[b]? =some (.box cs ty):=by
  intro b cs ty hb
  simp only[St.fs,fsOf,boxH] at hb
  split at hb
  ·rename_i cs' ty' hb';cases hb;exact hb'
  ·cases hb
 have fsRow:∀b r,(St.mk tmps m.hd).fs.row b=some (some r)->m.hd[b]? =some (.row r):=by
  intro b r hb
  simp only[St.fs,fsOf,rowH] at hb
  split at hb
  ·rename_i r' hb';cases hb;exact hb'
  ·cases hb
  ·cases hb
 have rowBack:∀{x q},s.heap[x]? =some (.row q)->s.fs.row x=some (some q):=fun hx=>by simp only[St.fs,fsOf,rowH,hx]
 have boxBack:∀{x cs ty},s.heap[x]? =some (.box cs ty)->s.fs.box x=some (cs,ty):=fun hx=>by simp only[St.fs,fsOf,boxH,hx]
 have at1:∀t v,(s.fs.tmp t=.top\/(s.fs.tmp t).den U j=some v)->((St.mk tmps m.hd).fs.tmp t=.top\/((St.mk tmps m.hd).fs.tmp t).den U' (m.J j)=some v):=by
  intro t v h2
  rcases aX t tmps.length with h3 | h3
  ·obtain⟨x,hx⟩:=TM.get_some h3
   obtain⟨y,hy⟩:=TM.get_some (m:=s.tmps) (i:=t) (by omega)
   have h5:=hat t _ _ hx hy
   have e1:(St.mk tmps m.hd).fs.tmp t=x:=by simp[St.fs,fsOf,hx]
   have e2:s.fs.tmp t=y:=by simp[St.fs,fsOf,hy]
   rw[e1]
   rw[e2] at h2
   rcases aur hg (j:=j) h5 with h6 | ⟨h6,h7⟩
   ·exact .inl h6
   ·rcases h2 with h2 | h2
    ·exact absurd h2 h6
    ·exact .inr (h7 h2)
  ·have e1:(St.mk tmps m.hd).fs.tmp t=.one .undef:=by simp only[St.fs,fsOf];rw[TM.get_none.2 h3];rfl
   have e2:s.fs.tmp t=.one .undef:=by simp only[St.fs,fsOf];rw[TM.get_none.2 (by omega)];rfl
   rw[e1]
   rw[e2] at h2
   rcases h2 with h2 | h2
   ·cases h2
   ·exact .inr h2
 refine⟨h.defers,h.size,fun t ht=> ?_,fun i v hi=>at1 _ v (h.sav i v hi),fun b cs ty hb=> ?_,fun b hb=> ?_,fun b b' k hb hb'=> ?_,fun b r hb=> ?_,fun b hb=> ?_,fun b b' k r v hb hr hs hk=> ?_,fun b b' r r' v v' k hr ho hr' hs hs' hk hk'=> ?_,fun b cs hb=> ?_,h.ext,⟨h.gs.at',fun k o b hz e=> ?_,fun k o id r v hz hr hs hc e=> ?_,h.gs.md,h.gs.nd,fun id y hy=> ?_,fun id hF hy=> ?_,fun id r v hr hs p hp=> ?_,fun id r v hr hk hs=> ?_⟩⟩
 ·obtain⟨v,h1,h2⟩:=h.tmp t ht
  exact⟨v,h1,at1 t v h2⟩
 ·obtain⟨x,ds,h1,h2,h3⟩:=boxAt (fsBox b cs ty hb)
  obtain⟨k,vs,h4,h5,h6,h7⟩:=h.box x ds ty (boxBack h2)
  exact⟨k,vs,by simp only[Mt.J,h1];exact h4,h5,pL hg h3 h6,h7⟩
 ·simp only[Mt.J]
  cases hs:m.hd[b]? with
  | none=>rw[noneSig (by rw[hs];intros;simp) (by rw[hs];intros;simp) (by rw[hs];intros;simp)]
  | some ob=>
    cases ob with
    | box cs ty=>simp[St.fs,fsOf,boxH,hs] at hb
    | gone=>rw[noneSig (by rw[hs];intros;simp) (by rw[hs];intros;simp) (by rw[hs];intros;simp)]
    | row r=>
      rcases gQ hs with⟨x,q,h1,h2,_⟩ | ⟨h1,_⟩
      ·rw[h1];exact h.nob x (sigBox h2 rfl)
      ·rw[h1]
    | loop y=>
      obtain⟨x,h1,h2⟩:=lpAt hs
      rw[h1];exact h.nob x (by simp only[St.fs,fsOf,boxH,h2])
 ·simp only[Mt.J] at hb hb'
  split at hb<;>first | cases hb;done | skip
  rename_i x hx
  split at hb'<;>first | cases hb';done | skip
  rename_i x' hx'
  have:=h.inj x x' k hb hb'
  subst this
  refine afX hX ?_ hx hx'
  unfold acq
  split
  ·rename_i q hq
   have:=h.nob x (sigBox hq rfl)
   rw[hb] at this;cases this
  ·rfl
 ·rcases gQ (fsRow b r hb) with⟨x,q,h1,h2,e1,e2,e3,e4,e5⟩ | ⟨h1,h2,h3,h4⟩
  ·obtain⟨v,h5,h6⟩:=h.row x q (rowBack h2)
   exact⟨v,by simp only[Mt.J,h1];exact h5,RowOk.swap e1 e2 e3 e4 (aut hg e5) h6⟩
  ·refine⟨nilSV,by simp only[Mt.J,h1],?_⟩
   rcases bM r.ks with⟨g1,g2⟩ | ⟨_,g2⟩
   ·exact EvOk.row ⟨g1,by rw[h3];rfl,by rw[h3];exact⟨fun r hr=>(by cases hr),by simp⟩,fun k hk=>absurd hk jV,fun _ p hp=>(by cases hp),[],by rw[h3];rfl,fun _=>(by rw[h3];exact World.ownsRow_nil _ _ _ _),by rw[h3];exact RdRow.nil,fun i row x hr=>by rw[h3] at hr;simp at hr⟩ (h4.trans g2)
   ·refine SlOk.row ⟨by rw[h3];rfl,by rw[h3];exact⟨fun r hr=>(by cases hr),by simp⟩,h2,fun k hk=>absurd hk jV,fun _=>(by rw[h3];exact World.ownsRow_nil _ _ _ _),?_⟩ (h4.trans g2)
    rw[h3]
    exact RdRow.nil
 ·simp only[Mt.J]
  cases hs:m.hd[b]? with
  | none=>rw[noneSig (by rw[hs];intros;simp) (by rw[hs];intros;simp) (by rw[hs];intros;simp)]
  | some ob=>
    cases ob with
    | row r=>simp[St.fs,fsOf,rowH,hs] at hb
    | gone=>simp[St.fs,fsOf,rowH,hs] at hb
    | box cs ty=>
      obtain⟨x,ds,h1,h2,h3⟩:=boxAt hs
      rw[h1];exact h.nor x (sigRow h2 rfl)
    | loop y=>
      obtain⟨x,h1,h2⟩:=lpAt hs
      rw[h1];exact h.nor x (by simp only[St.fs,fsOf,rowH,h2])
 ·simp only[Mt.J] at hb hs
  split at hb<;>first | cases hb;done | skip
  rename_i x hx
  rcases gQ (fsRow b' r hr) with⟨x',q,h1,h2,_,_,e3,_⟩ | ⟨h1,_⟩
  ·rw[h1] at hs
   exact h.sep x x' k q v hb (rowBack h2) hs (by rw[<-e3];exact hk)
  ·rw[h1] at hs
   cases hs
   exact jV hk
 ·simp only[Mt.J] at hs hs'
  rcases gQ (fsRow b r hr) with⟨x,q,h1,h2,_,_,e3,_⟩ | ⟨h1,_⟩
  ·rcases gQ (fsRow b' r' hr') with⟨x',q',h1',h2',_,_,e3',_⟩ | ⟨h1',_⟩
   ·rw[h1] at hs
    rw[h1'] at hs'
    have:=h.rsep x x' q q' v v' k (rowBack h2) (by rw[<-e3];exact ho) (rowBack h2') hs hs' (by rw[<-e3];exact hk) (by rw[<-e3'];exact hk')
    subst this
    exact afX hX (by simp only[acq,h2];rw[<-e3,ho];rfl) h1 h1'
   ·rw[h1'] at hs'
    cases hs'
    exact absurd hk' jV
  ·rw[h1] at hs
   cases hs
   exact absurd hk jV
 ·obtain⟨k,vs,h1,h2,h3,h4⟩:=h.fb b cs hb
  refine⟨k,vs,h1,h2,pL hg ?_ h3,h4⟩
  exact thm7.1 hF cs (fq hb)
 ·simp only[Mt.J] at e
  split at e<;>first | cases e;done | skip
  rename_i x hx
  exact h.gs.box k o x hz e
 ·simp only[Mt.J] at hs
  rcases gQ (fsRow id r hr) with⟨x,q,h1,h2,_,_,e3,_⟩ | ⟨h1,_⟩
  ·rw[h1] at hs
   exact h.gs.row k o x q v hz (rowBack h2) hs (by rw[<-e3];exact hc) (by rw[<-e3];exact e)
  ·rw[h1] at hs
   cases hs
   exact jV e
 ·have hy':m.hd[id]? =some (.loop y):=by
   simp only[St.fs,fsOf,lpH] at hy
   split at hy
   ·rename_i y' hy';cases hy;exact hy'
   ·cases hy
  obtain⟨x,h1,h2⟩:=lpAt hy'
  obtain⟨rf,o,h3,h4,h5,h6⟩:=h.gs.lp x y (by simp only[St.fs,fsOf,lpH,h2])
  exact⟨rf,o,h3,by simp only[Mt.J,h1];exact h4,h5,h6⟩
 ·simp only[Mt.J]
  cases hs:m.hd[id]? with
  | none=>rw[noneSig (by rw[hs];intros;simp) (by rw[hs];intros;simp) (by rw[hs];intros;simp)]
  | some ob=>
    cases ob with
    | row r=>simp[St.fs,fsOf,rowH,hs] at hF
    | gone=>simp[St.fs,fsOf,rowH,hs] at hF
    | loop y=>simp[St.fs,fsOf,lpH,hs] at hy
    | box cs ty=>
      obtain⟨x,ds,h1,h2,h3⟩:=boxAt hs
      rw[h1];exact h.gs.nol x (sigRow h2 rfl) (by simp only[St.fs,fsOf,lpH,h2])
 ·simp only[Mt.J] at hs
  rcases gQ (fsRow id r hr) with⟨x,q,h1,h2,_,_,e3,_⟩ | ⟨h1,_⟩
  ·rw[h1] at hs
   exact h.gs.ev x q v (rowBack h2) hs p hp
  ·rw[h1] at hs
   cases hs
   cases hp
 ·simp only[Mt.J] at hs
  rcases gQ (fsRow id r hr) with⟨x,q,h1,h2,e1,_,_,e4,e5⟩ | ⟨h1,_,_,h4⟩
  ·rw[h1] at hs
   have hq:q.kd=.tab:=by
    rw[hk] at e5
    cases hqk:q.kd<;>rw[hqk] at e5<;>first | rfl | cases e5
   exact(h.gs.tb x q v (rowBack h2) hq hs).mono e4 e1 (fun _ _ _ hz=>hz) (fun _ _=>rfl)
  ·exact absurd (h4.symm.trans hk) aab
def givE (v0:Nat) (θ:List E) (U:Env):Env:=
 ⟨fun i=>if v0<=i then(match θ[i-v0]? with | some t=>t.I U | none=>0) else U.i i,fun i=>if v0<=i then(match θ[i-v0]? with | some t=>t.B U | none=>false) else U.b i,fun i=>if v0<=i then(match θ[i-v0]? with | some t=>t.R U | none=>[]) else U.l i⟩
theorem ajd (v0:Nat) (vks:List VK) (θ:List E) (U:Env):Giv v0 vks θ U (givE v0 θ U):=by
 refine⟨fun i hi=> ?_,fun m k t _ ht=> ?_,fun m t _ ht=> ?_,fun m ks t _ ht=> ?_⟩
 ·have:¬v0<=i:=by omega
  simp[givE,this]
 all_goals simp[givE,ht]
theorem lh {vk:List VK}:∀{vks:List VK} {θ:List E},lj vk vks θ=true->θ.length=vks.length
 | [],[],_=>rfl
 | .int k::ks,e::es,h=>by simp only[lj,thm0] at h;simp[lh h.2]
 | .bool::ks,e::es,h=>by simp only[lj] at h;simp[lh h]
 | .list k::ks,e::es,h=>by simp only[lj,thm0] at h;simp[lh h.2]
 | .int _::_,[],h=>by cases h
 | .bool::_,[],h=>by cases h
 | .list _::_,[],h=>by cases h
theorem nE {vk:List VK} (hv:Vk U vk):∀{vks:List VK} {θ:List E},lj vk vks θ=true->(∀(i:Nat) ks t,vks[i]? =some (.list ks)->θ[i]? =some t->(t.R U).length<=maxLen)->okDs vks ((argE vks θ).D U)
 | [],[],_,_=>trivial
 | .int k::ks,e::es,h,hl=>by
   simp only[lj,thm0] at h
   exact⟨E.rng_ok hv e h.1,nE hv h.2 (fun i k t h1 h2=>hl (i+1) k t (by simpa using h1) (by simpa using h2))⟩
 | .bool::ks,e::es,h,hl=>by
   simp only[lj] at h
   refine⟨?_,nE hv h (fun i k t h1 h2=>hl (i+1) k t (by simpa using h1) (by simpa using h2))⟩
   show b2i (e.B U)=0\/b2i (e.B U)=1
   cases e.B U<;>simp[b2i]
 | .list k::ks,e::es,h,hl=>by
   simp only[lj,thm0] at h
   exact⟨⟨E.lok_ok hv e h.1,hl 0 k e rfl rfl⟩,nE hv h.2 (fun i k t h1 h2=>hl (i+1) k t (by simpa using h1) (by simpa using h2))⟩
 | .int _::_,[],h,_=>by cases h
 | .bool::_,[],h,_=>by cases h
 | .list _::_,[],h,_=>by cases h
theorem amn {vk:List VK} {vks:List VK} {θ:List E} (h:rngθ vk vks θ=true):θ.length=vks.length:=lh (lg (Rm.ini_ok vk) h)
theorem arG {vk:List VK} (hv:Vk U vk) {vks:List VK} {θ:List E} (h:rngθ vk vks θ=true) (hl:∀(i:Nat) ks t,vks[i]? =some (.list ks)->θ[i]? =some t->(t.R U).length<=maxLen):okDs vks ((argE vks θ).D U):=nE hv (lg (Rm.ini_ok vk) h) hl
theorem acl {v0:Nat} {hd:List Ob}:∀{vks:List VK} {n:Nat},zW v0 hd n vks=true->∀(i:Nat) ks,vks[i]? =some (.list ks)->∃r:RowOb,.row r∈hd/\r.l=.lw (v0+(n+i))
 | [],n,_,i,ks,hi=>by simp at hi
 | k::l,n,h,i,ks,hi=>by
   cases i with
   | zero=>
     simp only[bT,bk] at hi
     subst hi
     simp only[zW,thm0,List.any_eq_true] at h
     obtain⟨ob,h1,h2⟩:=h.1
     split at h2
     ·rename_i r
      rw[thm0] at h2
      have h3:=h2.1
      split at h3
      ·rename_i m hm
       exact⟨r,h1,by rw[hm,thm1 h3];rfl⟩
      ·cases h3
     ·cases h2
   | succ i=>
     have h':zW v0 hd (n+1) l=true:=by
      cases k<;>first | exact h | (simp only[zW,thm0] at h;exact h.2)
     obtain⟨r,h1,h2⟩:=acl h' i ks (by simpa using hi)
     exact⟨r,h1,by rw[h2];congr 1;omega⟩
theorem adv {cx:Cx} {vk:List VK} {tmps:TM} {s:St} {n:Nat} {X:List Value} {W0:Wb} {w:World} {a:Act} (hok:m.ok cx vk tmps s=true) (hv:Vk U vk) (h:Rel U n X W0 cx.fbs s.fs j a w):m.θ.length=m.vks.length/\okDs m.vks ((argE m.vks m.θ).D U):=by
 have hrel:=pP hok (ajd m.v0 m.vks m.θ U) h
 simp only[Mt.ok,thm0] at hok
 obtain⟨_,_,_,hR,hL⟩:=hok
 refine⟨amn hR,arG hv hR (fun i ks t hi ht=> ?_)⟩
 obtain⟨r,h1,h2⟩:=acl hL i ks hi
 obtain⟨b,hb,he⟩:=List.getElem_of_mem h1
 have hrow:(St.mk tmps m.hd).fs.row b=some (some r):=by simp[St.fs,fsOf,rowH,thm6 hb,he]
 obtain⟨v,_,h3⟩:=hrel.row b r hrow
 have h4:=h3.rows.len
 rw[h2,bt] at h4
 have h5:=(ajd m.v0 m.vks m.θ U).l i ks t hi ht
 simp only[E.R] at h4
 rw[h5] at h4
 exact h4
end
def gM (o:Oper) (ms:List Nat):Nat:=
 o.after.toList.foldl (fun m e=>if Region.binds .any e then m ||| (2 ^ e.on ||| ms.getD e.on 0) else m) 0
def ux (ops:Array Oper) (r:Rec) (m:Nat):Nat->List Rec->Bool
 | _,[]=>true
 | k,x::pre=>(m.testBit k||amI ops x r)&&ux ops r m (k+1) pre
def ordK (ops:Array Oper):List Rec->Nat->List Rec->List Nat->Bool
 | [],_,_,_=>true
 | r::l,i,pre,ms=>
   (r.o.after.toList.all fun e=>!Region.binds .any e||decide (e.on<i))&&(ux ops r (gM r.o ms) 0 pre&&ordK ops l (i+1) (pre++[r]) (ms++[gM r.o ms]))
section
variable {ops:Array Oper}
theorem uC {ms:List Nat} {k:Nat}:∀(l:List Edge) (m0:Nat),(l.foldl (fun m e=>if Region.binds .any e then m ||| (2 ^ e.on ||| ms.getD e.on 0) else m) m0).testBit k=true->
  m0.testBit k=true\/∃e∈l,Region.binds .any e=true/\(k=e.on\/(ms.getD e.on 0).testBit k=true)
 | [],m0,h=>.inl h
 | e::l,m0,h=>by
   simp only[List.foldl_cons] at h
   rcases uC l _ h with h1 | ⟨e',h1,h2⟩
   ·split at h1
    ·rename_i hb
     rw[Nat.testBit_or,Nat.testBit_or,Nat.testBit_two_pow,bH,bH,aZ] at h1
     rcases h1 with h1 | h1 | h1
     ·exact .inl h1
     ·exact .inr ⟨e,bD,hb,.inl h1.symm⟩
     ·exact .inr ⟨e,bD,hb,.inr h1⟩
    ·exact .inl h1
   ·exact .inr ⟨e',cm _ h1,h2⟩
theorem ab3 {r:Rec} {m:Nat}:∀(pre:List Rec) (k0:Nat),ux ops r m k0 pre=true->∀(k:Nat) x,pre[k]? =some x->m.testBit (k0+k)=true\/Indep ops x r
 | y::pre,k0,h,k,x,hk=>by
   simp only[ux,thm0,bH] at h
   cases k with
   | zero=>
     simp only[bT,bk] at hk
     subst hk
     exact h.1.imp id acr
   | succ k=>
     have:=ab3 pre (k0+1) h.2 k x (by simpa using hk)
     rwa [Nat.add_assoc,Nat.add_comm 1 k] at this
 | [],_,_,k,x,hk=>by simp at hk
theorem ais (hidx:∀(i:Nat) r,∀L:List Rec,ops.toList=L.map (·.o)->L[i]? =some r->ops[i]? =some r.o):∀(post pre:List Rec) (ms:List Nat),ops.toList=(pre++post).map (·.o)->ordK ops post pre.length pre ms=true->ms.length=pre.length->
  (∀(i:Nat),i<ms.length->∀k,(ms.getD i 0).testBit k=true->∀sel,fT ops sel->(∀o,ops[i]? =some o->∀e∈o.after,Region.binds .any e=true->sel e.on=true)->sel k=true)->
  (∀(i:Nat) r,pre.length<=i->(pre++post)[i]? =some r->∀e∈r.o.after,Region.binds .any e=true->e.on<i)/\
  (∀(k i:Nat) x r,k<i->pre.length<=i->(pre++post)[k]? =some x->(pre++post)[i]? =some r->Indep ops x r\/∀sel,fT ops sel->(∀o,ops[i]? =some o->∀e∈o.after,Region.binds .any e=true->sel e.on=true)->sel k=true)
 | [],pre,ms,hl,h,hm,hms=>by
   have none:∀(i:Nat) r,pre.length<=i->¬(pre++[])[i]? =some r:=fun i r hi hr=>by
    rw[List.append_nil,bI hi] at hr;cases hr
   exact⟨fun i r hi hr=>absurd hr (none i r hi),fun k i x r _ hi _ hr=>absurd hr (none i r hi)⟩
 | r0::post,pre,ms,hl,h,hm,hms=>by
   simp only[ordK,thm0] at h
   obtain⟨h1,h2,h3⟩:=h
   have e1:pre++r0::post=(pre++[r0])++post:=by simp
   have at0:ops[pre.length]? =some r0.o:=hidx pre.length r0 _ hl (by simp)
   have hmask:∀k,(gM r0.o ms).testBit k=true->∀sel,fT ops sel->(∀o,ops[pre.length]? =some o->∀e∈o.after,Region.binds .any e=true->sel e.on=true)->sel k=true:=by
    intro k hk sel hc he
    rcases uC _ 0 hk with h4 | ⟨e,h4,h5,h6⟩
    ·simp at h4
    ·have h4':e∈r0.o.after:=by simpa using h4
     have hs:=he _ at0 e h4' h5
     rcases h6 with rfl | h6
     ·exact hs
     ·rcases aX e.on ms.length with h7 | h7
      ·exact hms e.on h7 k h6 sel hc (fun o ho e' he' hb=>hc e.on o ho hs e' he' hb)
      ·rw[cW,bI h7] at h6
       simp at h6
   obtain⟨g1,g2⟩:=ais hidx post (pre++[r0]) (ms++[gM r0.o ms]) (by rw[<-e1];exact hl) (by simpa using h3) (by simp[hm]) (fun i hi k hk=>by
    rcases aX i ms.length with h4 | h4
    ·rw[cW,thm8 h4,<-cW] at hk
     exact hms i h4 k hk
    ·have:i=ms.length:=by simp at hi;omega
     subst this
     rw[cW,thm9 (Nat.le_refl _)] at hk
     simp only[Nat.sub_self,bT,Option.getD_some] at hk
     rw[hm]
     exact hmask k hk)
   rw[e1]
   refine⟨fun i r hi hr=> ?_,fun k i x r hk hi hx hr=> ?_⟩
   ·rcases aX pre.length i with h4 | h4
    ·exact g1 i r (by simp;omega) hr
    ·have:i=pre.length:=by omega
     subst this
     have:r=r0:=by simpa using hr.symm
     subst this
     intro e he hb
     have:=thm7.1 h1 e (by simpa using he)
     simpa[hb] using this
   ·rcases aX pre.length i with h4 | h4
    ·exact g2 k i x r hk (by simp;omega) hx hr
    ·have:i=pre.length:=by omega
     subst this
     have:r=r0:=by simpa using hr.symm
     subst this
     rw[<-e1,thm8 hk] at hx
     rcases ab3 pre 0 h2 k x hx with h5 | h5
     ·rw[bt] at h5
      exact .inr (hmask k h5)
     ·exact .inl h5
end
def amC (f:St->Kw->(Sig->St->Kw->Tr)->Tr):Nat->St->Kw->(Sig->St->Kw->Tr)->Tr
 | 0,_,_,_=>.stuck 73
 | n+1,s,kw,k=>f s kw fun sg s kw=>match sg with
   | .normal=>amC f n s kw k
   | sg=>k sg s kw
def fid:Code->Option Nat
 | .region id _ _=>some id
 | .seq a b=>(match fid a with | some i=>some i | none=>fid b)
 | .block _ c=>fid c
 | .loop c=>fid c
 | .cond _ x y=>(match fid x with | some i=>some i | none=>fid y)
 | _=>none
def aoj (c:Code) (l:List (Nat×List Pl)):Option (Nat×List Pl):=match fid c with
 | some i=>(az i l).map (i,·)
 | none=>none
def Kw.head (kw:Kw) (vks:List VK):Kw:=⟨kw.pc.filter fun p=>p.1.sc kw.vk.length,[],kw.vk++vks,kw.lv+1⟩
def amx (cx:Cx) (lv v0:Nat) (vks:List VK) (hd:St) (h0:Nat) (pls:List Pl) (s:St) (kw:Kw):Tr:=match argL pls s with
 | some (θ,ex)=>if Mt.ok ⟨v0,vks,θ,h0,ex,hd.heap⟩ cx kw.vk hd.tmps s then .next lv (argE vks θ) else .stuck 110
 | none=>.stuck 111
abbrev ClK:=Nat->List V->St->Kw->(V->St->Kw->Tr)->Tr
def yB:Nat:=1000000
structure RfS where
 ps:Array Nat
 assign:Code
 body:Code
 dep:Nat
 len:Nat
 hints:List (Nat×List Pl)
 cuts:List (Nat×List Pl)
abbrev RlK:=RfS->ClK
def uz (heap:List Ob):Bool:=heap.all Ob.noLp
def pQ:Operand->Bool
 | .const (.slice none 0 0)=>true
 | _=>false
def ase (cx:Cx) (o:Oper):Bool:=match o.op with
 | .next _ false=>true
 | .binOp .eql _ _ y _=>pQ y
 | .call c=>(match cx.fns with
   | []=>false
   | _::_=>match c.callee with
     | .value (.func g)=>!(cx.sm.any fun s=>Nat.beq s.f g)
     | .value (.tmp _)=>true
     | _=>false)
 | _=>false
def eK:Nat->List Oper->List (Nat×Oper)
 | _,[]=>[]
 | i,o::l=>(i,o)::eK (i+1) l
def lI (cx:Cx):List (Nat×Oper)->Option (Nat×Oper)
 | []=>none
 | p::l=>if ase cx p.2 then some p else lI cx l
def eD (ops:Array Oper):List Nat:=ops.toList.foldl (fun ms o=>ms++[gM o ms]) []
def capV:Option (Bool×Nat×Nat)->V
 | none=>.one .np
 | some (true,b,o)=>.one (.ptr b o)
 | some (false,b,o)=>.one (.fp b o)
def inlK (cl:ClK) (o:Oper) (g:Nat) (args:List V) (s:St) (kw:Kw) (k:St->Kw->Tr):Tr:=
 cl g args s kw fun v s' kw'=>match o.dst with
  | none=>k s' kw'
  | some d=>if Nat.blt d s'.n then k ⟨s'.tmps.set d v,s'.heap⟩ kw' else .stuck 60
def avZ (cx:Cx) (s:St) (kw:Kw) (o:Oper):Bool:=
 match o.op with
 | .call c=>match c.callee with
   | .value f=>match evS s.n s.tmps f,evL (evS s.n s.tmps) c.args.toList with
     | some (.one (.fn g)),some args=>(ru kw.vk (s.vw cx) g args cx.sm).isSome
     | _,_=>false
   | _=>false
 | _=>false
def apR (s:St) (kw:Kw):Mt:=⟨kw.vk.length,[],[],s.heap.length,[],s.heap⟩
def nilE (l:E) (v:Nat):E:=.not (.and (.eq (.var v) (.lit 0)) (.lt (.lit 0) (fy l)))
def nilK (cx:Cx) (o:Oper) (xt id:Nat) (s:St) (kw:Kw) (k:St->Kw->Tr):Tr:=
 match rwS s.heap id,az xt cx.ty with
 | some r,some i=>
   if r.kd.isSl&&(i.sle.isSome&&Mt.ok (apR s kw) cx kw.vk s.tmps s) then
    .any kw.vk.length (nilE r.l kw.vk.length) (match s.app o.dst {val:=.one (.bool (.eq (.var kw.vk.length) (.lit 0)))} with
     | some s'=>k s' (kw.head [.int .i64])
     | none=>.stuck 60)
   else .stuck 191
 | _,_=>.stuck 192
def goK (cl:ClK) (cx:Cx) (o:Oper) (s:St) (kw:Kw) (k:St->Kw->Tr):Tr:=
 match o.op with
 | .binOp .eql xt x y _=>if pQ y then(match evS s.n s.tmps x with
   | some (.one (.sl id))=>nilK cx o xt id s kw k
   | some (.one .nsl)=>(match az xt cx.ty with
     | some i=>if i.sle.isSome then(match s.app o.dst {val:=.one (.bool (.tt true))} with
       | some s'=>k s' kw
       | none=>.stuck 60) else .stuck 193
     | none=>.stuck 193)
   | _=>.stuck 194) else .stuck 195
 | .call c=>match c.callee with
   | .value f=>match evS s.n s.tmps f,evL (evS s.n s.tmps) c.args.toList with
     | some (.one (.fn g)),some args=>if Nat.blt g yB then inlK cl o g args s kw k else .stuck 208
     | some (.one (.clo g fs ps)),some args=>if Nat.blt g yB then inlK cl o g (fs.map capV++args++ps.map capV) s kw k else .stuck 208
     | some (.one (.yld id)),some args=>inlK cl o (yB+id) args s kw k
     | _,_=>.stuck 123
   | _=>.stuck 124
 | .next x false=>match evS s.n s.tmps x with
   | some (.one (.itp id mid))=>.stuck 301
   | _=>.stuck 158
 | _=>.stuck 125
def akJ (o:Oper) (s:St) (kw:Kw) (k:St->Kw->Tr):Tr:=match s.app o.dst {val:=.one .undef} with
 | some s'=>k s' kw
 | none=>.stuck 60
def barK (cl:ClK) (cx:Cx) (ops:Array Oper) (o:Oper) (s:St) (kw:Kw) (k:St->Kw->Tr):Tr:=
 if avZ cx s kw o then opsK cx ops [o] s kw fun _ s kw=>k s kw else
 match o.guard with
 | none=>goK cl cx o s kw k
 | some (g,b)=>match((ops[g]?).bind (·.dst)).bind (fun t=>if Nat.blt t s.n then s.tmps.get? t else none) with
   | some (.one (.bool e))=>decK e (fun x kw=>if x==b then goK cl cx o s kw k else akJ o s kw k) kw
   | some (.one .undef)=>akJ o s kw k
   | _=>.stuck 61
def regS (cl:ClK) (cx:Cx) (ops:Array Oper):List Oper->St->Kw->(St->Kw->Tr)->Tr
 | [],s,kw,k=>k s kw
 | o::l,s,kw,k=>if ase cx o then barK cl cx ops o s kw fun s kw=>regS cl cx ops l s kw k
   else opsK cx ops [o] s kw fun _ s kw=>regS cl cx ops l s kw k
def awn (ops:Array Oper) (sel:Nat->Bool) (i:Nat) (o:Oper):Bool:=
 (eK 0 ops.toList).all fun p=>Nat.beq p.1 i||(sel p.1||((p.2.after.toList.any fun e=>Region.binds .any e&&Nat.beq e.on i)||o.apart ops p.2))
def ajg (cx:Cx) (ops:Array Oper) (sel:Nat->Bool) (i:Nat) (o:Oper):Bool:=
 o.guard.isNone&&((match o.op with
  | .move _=>true
  | .assign _=>true
  | .fieldAddr s _ f=>(match az s cx.ty with
    | some i=>(i.fields[f]?).isSome
    | none=>false)
  | .indexAddr _ _ _=>true
  | .nilCheck _=>true
  | .slice _ _ _ _ _=>true
  | _=>false)&&(Region.noSelect ops&&awn ops sel i o))
def lP (ms:List Nat) (i k:Nat):Bool:=(ms.getD i 0).testBit k
def ab4 (ops:Array Oper) (ms:List Nat) (p:Nat×Rec):List (Nat×Rec)->Bool
 | []=>true
 | q::l=>(lP ms p.1 q.1||amI ops q.2 p.2)&&ab4 ops ms p l
def nt (ops:Array Oper) (ms:List Nat):List (Nat×Rec)->List (Nat×Rec)->Bool
 | _,[]=>true
 | pre,p::l=>ab4 ops ms p pre&&nt ops ms (pre++[p]) l
def akQ (cx:Cx) (ops:Array Oper) (ms:List Nat) (L:List (Nat×Rec)) (outs:List (Nat×Oper)):Bool:=
 nt ops ms [] L&&((L.all fun p=>p.2.o.after.toList.all fun e=>!Region.binds .any e||(Nat.blt e.on p.1&&(outs.all fun q=>!Nat.beq q.1 e.on)))&&
  (outs.all fun q=>L.all fun p=>lP ms q.1 p.1||ajg cx ops (fun k=>!(outs.any fun q=>Nat.beq q.1 k) &&!(L.any fun q=>Nat.beq q.1 k &&!Nat.blt k p.1)) p.1 p.2.o))
def rG (ops:Array Oper):Bool:=(ops.toList.all fun o=>match o.op with | .defer _=>false | _=>true)&&(eK 0 ops.toList).all fun p=>p.2.after.toList.all fun e=>!Region.binds .any e||Nat.blt e.on p.1
def avX (o:Oper):Bool:=match o.op with
 | .move _=>true
 | .assign _=>true
 | .fieldAddr _ _ _=>true
 | .indexAddr _ _ _=>true
 | .nilCheck _=>true
 | .slice _ _ _ _ _=>true
 | _=>false
def regD (cl:ClK) (cx:Cx) (ops:Array Oper) (ms:List Nat):Nat->List (Nat×Oper)->St->Kw->(St->Kw->Tr)->Tr
 | 0,_,_,_,_=>.stuck 126
 | m+1,todo,s,kw,k=>match lI cx todo with
   | none=>opsK cx ops (todo.map (·.2)) s kw fun rs s' kw'=>if akQ cx ops ms ((todo.map (·.1)).zip rs) [] then k s' kw' else .stuck 70
   | some (ci,co)=>
     let A:=todo.filter fun p=>!Nat.beq p.1 ci &&!lP ms p.1 ci
     let B:=todo.filter fun p=>lP ms p.1 ci &&!Nat.beq p.1 ci
     match A.find? (fun p=>!lP ms ci p.1 &&!avX p.2) with
     | none=>opsK cx ops (A.map (·.2)) s kw fun rs s' kw'=>if akQ cx ops ms ((A.map (·.1)).zip rs) ((ci,co)::B) then
      barK cl cx ops co s' kw' fun s kw=>regD cl cx ops ms m B s kw k
       else .stuck 127
     | some _=>.stuck 127
def yA (v:Option V) (id:Nat):Option (Nat×List V):=match v with
 | some (.one (.fn g))=>some (g,[.one (.yld id)])
 | some (.one (.clo g fs ps))=>some (g,fs.map capV++[.one (.yld id)]++ps.map capV)
 | _=>none
def eW (cl:ClK) (rl:Option RlK) (cx:Cx) (fuel:Nat):Code->St->Kw->(Sig->St->Kw->Tr)->Tr
 | .skip,s,kw,k=>k .normal s kw
 | .label _,s,kw,k=>k .normal s kw
 | .region _ ops draw,s,kw,k=>match lI cx (eK 0 ops.toList) with
   | none=>opsK cx ops ops.toList s kw fun rs s' kw'=>
     if draw then(if ordK ops rs 0 [] [] then k .normal s' kw' else .stuck 70) else k .normal s' kw'
   | some _=>if draw then if rG ops then regD cl cx ops (eD ops) (ops.size+1) (eK 0 ops.toList) s kw (k .normal) else .stuck 128 else regS cl cx ops ops.toList s kw (k .normal)
 | .seq a b,s,kw,k=>match aoj b cx.cuts with
   | none=>eW cl rl cx fuel a s kw fun sg s kw=>match sg with
     | .normal=>eW cl rl cx fuel b s kw k
     | sg=>k sg s kw
   | some (id,pls)=>match pls with
     | [.ask]=>eW cl rl cx fuel a s kw fun sg s kw=>match sg with
       | .normal=>.at id s
       | sg=>k sg s kw
     | pls=>match absL kw.vk.length pls (s,[]) with
       | some (hd,vks)=>.cut kw.lv kw.vk.length vks
        (eW cl rl cx fuel a s {kw with lv:=kw.lv+1} fun sg s' kw'=>match sg with
         | .normal=>amx cx kw.lv kw.vk.length vks hd s.heap.length pls s' kw'
         | sg=>k sg s' kw')
        (eW cl rl cx fuel b hd (kw.head vks) k)
       | none=>.stuck 114
 | .cond c x y,s,kw,k=>match evS s.n s.tmps c with
   | some (.one (.bool e))=>decK e (fun t kw=>if t then eW cl rl cx fuel x s kw k else eW cl rl cx fuel y s kw k) kw
   | _=>.stuck 71
 | .block id c,s,kw,k=>eW cl rl cx fuel c s kw fun sg s kw=>match sg with
   | .exit i=>if Nat.beq i id then k .normal s kw else k (.exit i) s kw
   | sg=>k sg s kw
 | .loop c,s,kw,k=>match aoj c cx.hints with
   | none=>amC (eW cl rl cx fuel c) fuel s kw k
   | some (id,pls)=>match pls with
     | [.ask]=>.at id s
     | pls=>match absL kw.vk.length pls (s,[]),argL pls s with
       | some (hd,vks),some (θ,ex)=>
         if Mt.ok ⟨kw.vk.length,vks,θ,s.heap.length,ex,hd.heap⟩ cx kw.vk hd.tmps s then
          .loop kw.lv kw.vk.length vks (argE vks θ) (eW cl rl cx fuel c hd (kw.head vks) fun sg s' kw'=>match sg with
           | .normal=>amx cx kw.lv kw.vk.length vks hd s.heap.length pls s' kw'
           | sg=>k sg s' kw')
         else .stuck 112
       | _,_=>.stuck 113
 | .exit id,s,kw,k=>k (.exit id) s kw
 | .ret,s,kw,k=>k .ret s kw
 | .scope c,s,kw,k=>eW cl rl cx fuel c s kw k
 | .rangeFunc f ps assign body,s,kw,k=>match rl,yA (evS s.n s.tmps f) s.heap.length with
   | some rl,some (g,args)=>if Nat.blt g yB&&uz s.heap then
    rl ⟨ps,assign,body,dJ s.tmps.old,s.n,cx.hints,cx.cuts⟩ g args ⟨s.tmps,s.heap++[.loop ⟨.ready,none⟩]⟩ kw fun _ s' kw'=>match s'.heap[s.heap.length]? with
     | some (.loop y)=>(match y.st with
       | .busy=>.stuck 201
       | _=>if uz (s'.heap.set s.heap.length .gone) then(match y.pend with
         | none=>k .normal ⟨s'.tmps,s'.heap.set s.heap.length .gone⟩ kw'
         | some .normal=>.stuck 207
         | some sg=>k sg ⟨s'.tmps,s'.heap.set s.heap.length .gone⟩ kw') else .stuck 202)
     | _=>.stuck 203
     else .stuck 204
   | _,_=>.stuck 205
 | _,_,_,_=>.stuck 72
def Sig.exit':Sig->Exit
 | .normal=>.normal
 | .exit id=>.exit id
 | .ret=>.ret
section
variable {P:Program} {sp:Spec} {U:Env} {G:Env->E->Prop} {I:Nat->List Dt->Prop} {cx:Cx} {n:Nat} {X:List Value} {W0:Wb}
structure At (cx:Cx) (U:Env) (n:Nat) (X:List Value) (W0:Wb) (s:St) (j:J) (a:Act) (w:World):Prop where
 rel:Rel U n X W0 cx.fbs s.fs j a w
 len:s.tmps.length=n+X.length
 own:s.n=n
theorem aoh {ops:Array Oper} (i:Nat) (r:Rec) (L:List Rec) (hl:ops.toList=L.map (·.o)) (hi:L[i]? =some r):ops[i]? =some r.o:=by
 rw[<-jD,hl,ji,hi];rfl
theorem acT {v0:Nat} {p:Pl} {x y:St×List VK} (h:absP v0 p x=some y):y.1.tmps.length=x.1.tmps.length/\y.1.n=x.1.n:=by
 unfold absP at h
 cases p<;>dsimp only at h<;>first
  | (split at h<;>first | (cases h;exact⟨rfl,rfl⟩) | cases h)
  | (rw[thm4] at h;obtain⟨_,_,rfl⟩:=h;exact⟨rfl,rfl⟩)
  | (cases h;exact⟨rfl,rfl⟩)
  | cases h
theorem jh {v0:Nat}:∀{l:List Pl} {x y:St×List VK},absL v0 l x=some y->y.1.tmps.length=x.1.tmps.length/\y.1.n=x.1.n
 | [],x,y,h=>by cases h;exact⟨rfl,rfl⟩
 | p::l,x,y,h=>by
   simp only[absL,bS] at h
   obtain⟨z,h1,h2⟩:=h
   rw[(jh h2).1,(jh h2).2,(acT h1).1,(acT h1).2]
   exact⟨rfl,rfl⟩
theorem pS {U':Env} {kw:Kw} {vks:List VK} (hg:Good sp cx.sm U kw) (ha:Ag kw.vk.length U U') (hd:okDs vks (varsD U' kw.vk.length vks)):Good sp cx.sm U' (kw.head vks):=by
 refine⟨fun p hp=> ?_,?_,fun p hp=>by cases hp⟩
 ·have h1:=List.mem_filter.1 hp
  rw[<-(E.sc_eq ha p.1 (by simpa using h1.2)).2.1]
  exact hg.pc p h1.1
 ·have key:∀(vks:List VK) (n:Nat),okDs vks (varsD U' n vks)->(∀(i:Nat) k,vks[i]? =some (.int k)->inK k (U'.i (n+i))=true)/\∀(i:Nat) ks,vks[i]? =some (.list ks)->RowsIn ks (U'.l (n+i)):=by
   intro vks
   induction vks with
   | nil=>intro n _;exact⟨fun i k h=>by simp at h,fun i k h=>by simp at h⟩
   | cons x l ih=>
     intro n h
     obtain⟨h1,h2⟩:=h
     obtain⟨i1,i2⟩:=ih (n+1) h2
     refine⟨fun i k hk=> ?_,fun i ks hk=> ?_⟩
     ·cases i with
      | zero=>simp at hk;subst hk;exact h1
      | succ i=>
        have:=i1 i k (by simpa using hk)
        rwa [show n+(i+1)=n+1+i by omega]
     ·cases i with
      | zero=>simp at hk;subst hk;exact h1
      | succ i=>
        have:=i2 i ks (by simpa using hk)
        rwa [show n+(i+1)=n+1+i by omega]
  obtain⟨k1,k2⟩:=key vks _ hd
  constructor
  ·intro i k hk
   rcases aX i kw.vk.length with hlt | hge
   ·simp only[Kw.head] at hk
    rw[thm8 hlt] at hk
    rw[<-(ha i hlt).1];exact hg.vk.i i k hk
   ·simp only[Kw.head] at hk
    rw[thm9 hge] at hk
    have:=k1 _ k hk
    rwa [show kw.vk.length+(i-kw.vk.length)=i by omega] at this
  ·intro i k hk
   rcases aX i kw.vk.length with hlt | hge
   ·simp only[Kw.head] at hk
    rw[thm8 hlt] at hk
    rw[<-(ha i hlt).2.2];exact hg.vk.l i k hk
   ·simp only[Kw.head] at hk
    rw[thm9 hge] at hk
    have:=k2 _ k hk
    rwa [show kw.vk.length+(i-kw.vk.length)=i by omega] at this
def ajV (cx:Cx) (n:Nat) (X:List Value) (W0:Wb) (U:Env) (v0:Nat) (vks:List VK) (hd:St) (ds:List Dt) (a:Act) (w:World):Prop:=
 ∃j,∀U',Ag v0 U U'->varsD U' v0 vks=ds->At cx U' n X W0 hd j a w
theorem ri {U2:Env} {v0:Nat} {vks:List VK} {θ:List E} {h0:Nat} {ex:List (Option Nat)} {hd s:St} {vk:List VK} {j:J} {a:Act} {w:World} (hok:Mt.ok ⟨v0,vks,θ,h0,ex,hd.heap⟩ cx vk hd.tmps s=true) (hv:Vk U2 vk) (hl:hd.tmps.length=n+X.length/\hd.n=n) (ha:Ag v0 U U2) (hr:At cx U2 n X W0 s j a w):
  okDs vks ((argE vks θ).D U2)/\ajV cx n X W0 U v0 vks hd ((argE vks θ).D U2) a w:=by
 obtain⟨h1,h2⟩:=adv hok hv hr.rel
 refine⟨h2,_,fun U3 h3 h4=>⟨pP hok (auY (ha.symm.trans h3) h1 h4) hr.rel,hl.1,hl.2⟩⟩
theorem acd {U2:Env} {lv v0:Nat} {vks:List VK} {h0:Nat} {pls:List Pl} {hd s:St} {kw:Kw} {j:J} {a:Act} {w:World} (h:(amx cx lv v0 vks hd h0 pls s kw).holds sp G U2 I) (hv:Vk U2 kw.vk) (hl:hd.tmps.length=n+X.length/\hd.n=n) (ha:Ag v0 U U2) (hr:At cx U2 n X W0 s j a w):
  ∃ds,I lv ds/\okDs vks ds/\ajV cx n X W0 U v0 vks hd ds a w:=by
 unfold amx at h
 split at h
 ·split at h
  ·rename_i hok
   obtain⟨h1,h2⟩:=ri hok hv hl ha hr
   exact⟨_,h,h1,h2⟩
  ·exact h.elim
 ·exact h.elim
def Tie (sp:Spec) (ry:Option RfS) (X:List Value) (W0:Wb):Prop:=W0.hw=sp.hw/\match ry with
 | none=>True
 | some r=>∃(rf:Rf) (A B:List Value),W0.rf=some rf/\rf.ps=r.ps/\rf.assign=r.assign/\rf.body=r.body/\rf.tmps.size=r.len/\X=A++(rf.tmps.toList++B)/\B.length=r.dep
theorem Tie.more {sp:Spec} {ry:Option RfS} {X:List Value} {W0:Wb} (h:Tie sp ry X W0) (L:List Value):Tie sp ry (L++X) W0:=by
 cases ry with
 | none=>exact⟨h.1,trivial⟩
 | some r=>
   obtain⟨h0,rf,A,B,h1,h2,h3,h4,h5,h6,h7⟩:=h
   exact⟨h0,rf,L++A,B,h1,h2,h3,h4,h5,by rw[h6,List.append_assoc],h7⟩
structure CallOk (P:Program) (sp:Spec) (G:Env->E->Prop) (cx:Cx) (ry:Option RfS) (cl:ClK):Prop where
 call:∀(g:Nat) (args:List V) (s:St) (kw:Kw) (k:V->St->Kw->Tr) (R:Value->World->Prop) (U:Env) (I:Nat->List Dt->Prop) (n:Nat) (X:List Value) (W0:Wb) (j:J) (a:Act) (w:World) (vals:List Value),g<yB->
  (cl g args s kw k).holds sp G U I->Good sp cx.sm U kw->At cx U n X W0 s j a w->Tie sp ry (a.tmps.toList++X) W0->vals.length=args.length->(∀(i:Nat) x,args[i]? =some x->∃u,vals[i]? =some u/\x.den U j=some u)->
  (∀v s' kw' U' I' j' w' u,(k v s' kw').holds sp G U' I'->Good sp cx.sm U' kw'->Ag kw.vk.length U U'->(∀m,m<kw.lv->I' m=I m)->kw.lv<=kw'.lv->kw.vk.length<=kw'.vk.length->v.den U' j'=some u->At cx U' n X W0 s' j' a w'->R u w')->
  (callFunc g vals.toArray).run P w=.ok (.enter g vals.toArray) w/\Calls P g vals.toArray w fun e w'=>∃u,e=.returned u/\R u w'
 yld:∀(id:Nat) (args:List V) (s:St) (kw:Kw) (k:V->St->Kw->Tr) (R:Value->World->Prop) (U:Env) (I:Nat->List Dt->Prop) (n:Nat) (X:List Value) (W0:Wb) (j:J) (a:Act) (w:World) (vals:List Value) (l:Nat),
  (cl (yB+id) args s kw k).holds sp G U I->Good sp cx.sm U kw->At cx U n X W0 s j a w->Tie sp ry X W0->j.g.y id=some l->vals.length=args.length->(∀(i:Nat) x,args[i]? =some x->∃u,vals[i]? =some u/\x.den U j=some u)->
  (∀v s' kw' U' I' j' w' u,(k v s' kw').holds sp G U' I'->Good sp cx.sm U' kw'->Ag kw.vk.length U U'->(∀m,m<kw.lv->I' m=I m)->kw.lv<=kw'.lv->kw.vk.length<=kw'.vk.length->v.den U' j'=some u->At cx U' n X W0 s' j' a w'->R u w')->
  ∃f tmps assign body,(Instr.yield l vals.toArray).run P w=.ok (.round l f tmps assign body) w/\∀ro,RoundIn (Fw ro) 0 P l f tmps assign body w fun e w'=>∃u,e=.returned u/\R u w'
def ClOk (P:Program) (sp:Spec) (G:Env->E->Prop) (cx:Cx) (ry:Option RfS) (cl:ClK) (X:List Value) (W0:Wb):Prop:=CallOk P sp G cx ry cl/\Tie sp ry X W0
structure Nx (kw kw':Kw) (U U':Env) (I I':Nat->List Dt->Prop):Prop where
 ag:Ag kw.vk.length U U'
 inv:∀m,m<kw.lv->I' m=I m
 lv:kw.lv<=kw'.lv
 vk:kw.vk.length<=kw'.vk.length
theorem Nx.refl (kw:Kw) (U:Env) (I:Nat->List Dt->Prop):Nx kw kw U U I I:=⟨.refl _ _,fun _ _=>rfl,Nat.le_refl _,Nat.le_refl _⟩
theorem Nx.of {kw kw':Kw} (h:KwGe kw' kw) (U:Env) (I:Nat->List Dt->Prop):Nx kw kw' U U I I:=⟨.refl _ _,fun _ _=>rfl,by rw[h.lv];exact Nat.le_refl _,h.vk⟩
theorem Nx.trans {a b c:Kw} {U U' U'':Env} {I I' I'':Nat->List Dt->Prop} (h:Nx a b U U' I I') (h':Nx b c U' U'' I' I''):Nx a c U U'' I I'':=
 ⟨h.ag.trans (h'.ag.mono h.vk),fun m hm=>(h'.inv m (qs hm h.lv)).trans (h.inv m hm),Nat.le_trans h.lv h'.lv,Nat.le_trans h.vk h'.vk⟩
end
open Go
section
variable {P:Program} {sp:Spec} {U:Env} {G:Env->E->Prop} {I:Nat->List Dt->Prop} {cx:Cx} {cl:ClK} {n:Nat} {X:List Value} {W0:Wb} {ops:Array Oper} {ro:Option Nat} {ry:Option RfS}
theorem At.ev {s:St} {j:J} {a:Act} {w:World} (h:At cx U n X W0 s j a w) {x:Operand} {v:V} (hx:evS s.n s.tmps x=some v):v.den U j=some (a.eval x):=by
 refine h.rel.eval (x:=x) ?_
 have:=ajj s s.le x
 rw[h.own] at this hx
 rw[this];exact hx
theorem At.le {s:St} {j:J} {a:Act} {w:World} (h:At cx U n X W0 s j a w):s.n<=s.tmps.length:=s.le
theorem lK {j:J}:∀{l:List (Option (Bool×Nat×Nat))} {vs:List Value},dH j l=some vs->vs.length=(l.map capV).length/\∀(i:Nat) x,(l.map capV)[i]? =some x->∃u,vs[i]? =some u/\x.den U j=some u
 | [],vs,h=>by cases h;exact⟨rfl,fun i x hx=>by simp at hx⟩
 | c::l,vs,h=>by
   simp only[dH] at h
   cases hc:ptrV j c with
   | none=>rw[hc] at h;cases h
   | some v=>
     cases hl:dH j l with
     | none=>rw[hc,hl] at h;cases h
     | some us=>
       rw[hc,hl] at h
       cases h
       obtain⟨h1,h2⟩:=lK hl
       refine⟨by simp[h1],fun i x hx=> ?_⟩
       cases i with
       | zero=>
         simp only[List.map_cons,bT,bk] at hx
         subst hx
         refine⟨v,rfl,?_⟩
         match c,hc with
         | none,hc=>exact hc
         | some (true,b,o),hc=>exact hc
         | some (false,b,o),hc=>exact hc
       | succ i=>exact h2 i x (by simpa using hx)
theorem nK {j:J} {xs ys:List V} {us vs:List Value} (h1:us.length=xs.length) (h2:∀(i:Nat) x,xs[i]? =some x->∃u,us[i]? =some u/\x.den U j=some u) (h3:∀(i:Nat) x,ys[i]? =some x->∃u,vs[i]? =some u/\x.den U j=some u):
  ∀(i:Nat) x,(xs++ys)[i]? =some x->∃u,(us++vs)[i]? =some u/\x.den U j=some u:=by
 intro i x hx
 rcases aX i xs.length with hlt | hge
 ·rw[thm8 hlt] at hx
  rw[thm8 (by omega)]
  exact h2 i x hx
 ·rw[thm9 hge] at hx
  rw[thm9 (by omega),h1]
  exact h3 _ x hx
theorem ai1 (hcl:ClOk P sp G cx ry cl X W0) {o:Oper} {g:Nat} {args:List V} {s:St} {kw:Kw} {k:St->Kw->Tr} {j:J} {a:Act} {w:World} {vals:List Value} (hgb:g<yB) (h:(inlK cl o g args s kw k).holds sp G U I) (hg:Good sp cx.sm U kw) (hr:At cx U n X W0 s j a w)
  (hl:vals.length=args.length) (hd:∀(i:Nat) x,args[i]? =some x->∃u,vals[i]? =some u/\x.den U j=some u) {K:Act->World->Prop}
  (hK:∀s' kw' U' I' j' a' w',(k s' kw').holds sp G U' I'->Good sp cx.sm U' kw'->Nx kw kw' U U' I I'->At cx U' n X W0 s' j' a' w'->K a' w'):
  (callFunc g vals.toArray).run P w=.ok (.enter g vals.toArray) w/\Calls P g vals.toArray w fun e w'=>∃u,e=.returned u/\K (a.put o.dst u) w':=by
 refine hcl.1.call g args s kw _ (fun u w'=>K (a.put o.dst u) w') U I n X W0 j a w vals hgb h hg hr (hcl.2.more _) hl hd (fun v s' kw' U' I' j' w' u h' hg' ha hI hlv hvk hv hr'=> ?_)
 have hnx:Nx kw kw' U U' I I':=⟨ha,hI,hlv,hvk⟩
 split at h'
 ·rename_i hdst
  rw[hdst]
  exact hK s' kw' U' I' j' _ w' h' hg' hnx hr'
 ·rename_i d hdst
  split at h'
  ·rename_i hlt
   have hlt':d<s'.n:=by simpa[Nat.blt_eq] using hlt
   refine hK _ kw' U' I' j' _ w' h' hg' hnx ⟨?_,hr'.len,hr'.own⟩
   have h1:=hr'.rel.put (dst:=o.dst) hv (fun d' hd'=>by rw[hdst] at hd';cases hd';rw[<-hr'.own];exact hlt')
   rw[hdst] at h1 ⊢
   have e:(St.mk (s'.tmps.set d v) s'.heap).fs=s'.fs.put (some d) v:=by
    refine Ua.ext' (fun t=> ?_) (fun _=>rfl) (fun _=>rfl) (fun _=>rfl)
    simp only[Ua.put,St.fs,fsOf,TM.get_set s'.tmps v hlt']
    by_cases ht:d=t
    ·subst ht;simp
    ·simp[ht]
   rw[e]
   exact h1
  ·exact h'.elim
theorem asf (hcl:ClOk P sp G cx ry cl X W0) {o:Oper} {id l:Nat} {args:List V} {s:St} {kw:Kw} {k:St->Kw->Tr} {j:J} {a:Act} {w:World} {vals:List Value} (h:(inlK cl o (yB+id) args s kw k).holds sp G U I) (hg:Good sp cx.sm U kw) (hr:At cx U n X W0 s j a w)
  (hl:vals.length=args.length) (hyl:j.g.y id=some l) (hd:∀(i:Nat) x,args[i]? =some x->∃u,vals[i]? =some u/\x.den U j=some u) {K:Act->World->Prop}
  (hK:∀s' kw' U' I' j' a' w',(k s' kw').holds sp G U' I'->Good sp cx.sm U' kw'->Nx kw kw' U U' I I'->At cx U' n X W0 s' j' a' w'->K a' w'):
  ∃f tmps assign body,(Instr.yield l vals.toArray).run P w=.ok (.round l f tmps assign body) w/\∀ro,RoundIn (Fw ro) 0 P l f tmps assign body w fun e w'=>∃u,e=.returned u/\K (a.put o.dst u) w':=by
 refine hcl.1.yld id args s kw _ (fun u w'=>K (a.put o.dst u) w') U I n X W0 j a w vals l h hg hr hcl.2 hyl hl hd (fun v s' kw' U' I' j' w' u h' hg' ha hI hlv hvk hv hr'=> ?_)
 have hnx:Nx kw kw' U U' I I':=⟨ha,hI,hlv,hvk⟩
 split at h'
 ·rename_i hdst
  rw[hdst]
  exact hK s' kw' U' I' j' _ w' h' hg' hnx hr'
 ·rename_i d hdst
  split at h'
  ·rename_i hlt
   have hlt':d<s'.n:=by simpa[Nat.blt_eq] using hlt
   refine hK _ kw' U' I' j' _ w' h' hg' hnx ⟨?_,hr'.len,hr'.own⟩
   have h1:=hr'.rel.put (dst:=o.dst) hv (fun d' hd'=>by rw[hdst] at hd';cases hd';rw[<-hr'.own];exact hlt')
   rw[hdst] at h1 ⊢
   have e:(St.mk (s'.tmps.set d v) s'.heap).fs=s'.fs.put (some d) v:=by
    refine Ua.ext' (fun t=> ?_) (fun _=>rfl) (fun _=>rfl) (fun _=>rfl)
    simp only[Ua.put,St.fs,fsOf,TM.get_set s'.tmps v hlt']
    by_cases ht:d=t
    ·subst ht;simp
    ·simp[ht]
   rw[e]
   exact h1
  ·exact h'.elim
theorem amO {v0:Nat} {U U':Env} (h:Ag v0 U U'):Giv v0 [] [] U U':=⟨h,fun m k t hk=>by simp at hk,fun m t hk=>by simp at hk,fun m ks t hk=>by simp at hk⟩
theorem rn {y:Operand} (h:pQ y=true) (a:Act):a.eval y=.slice none 0 0:=by
 unfold pQ at h
 split at h
 ·rfl
 ·cases h
theorem ar3 (hT:∀t i,(t,i)∈cx.ty->TIok P t i) {o:Oper} {xt yt:Nat} {x y:Operand} {id:Nat} {s:St} {kw:Kw} {k:St->Kw->Tr} {j:J} {a:Act} {w:World} (hop:o.op=.binOp .eql xt x y yt) (hy:pQ y=true) (hev:evS s.n s.tmps x=some (.one (.sl id))) (h:(nilK cx o xt id s kw k).holds sp G U I) (hg:Good sp cx.sm U kw) (hr:At cx U n X W0 s j a w) {K:Act->World->Prop} {Q:Exit->Act->World->Prop}
  (hK:∀s' kw' U' I' j' a' w',(k s' kw').holds sp G U' I'->Good sp cx.sm U' kw'->Nx kw kw' U U' I I'->At cx U' n X W0 s' j' a' w'->K a' w'):o.wp P a w K Q:=by
 unfold nilK at h
 split at h
 ·rename_i r i hq hi
  split at h
  ·rename_i hc
   simp only[thm0] at hc
   obtain⟨hkd,hsl,hok⟩:=hc
   obtain⟨et,het⟩:=Option.isSome_iff_exists.1 hsl
   have hu:=(hT _ _ (ao hi)).sle et het
   have hx:=hr.ev hev
   obtain⟨sv,hs,hv⟩:∃sv:SV,j.s id=some sv/\a.eval x=sv.v:=by
    simp only[V.den,C.den,thm4] at hx
    obtain⟨sv,h1,h2⟩:=hx
    exact⟨sv,h1,h2.symm⟩
   obtain⟨U',ha,hz,hh⟩:=h (if sv.a.isNone then 0 else 1) (by split<;>decide)
   have hr':At cx U' n X W0 s ((apR s kw).J j) a w:=⟨pP hok (amO ha) hr.rel,hr.len,hr.own⟩
   have hcond:(nilE r.l kw.vk.length).B U'=true:=by
    have hx':=hr'.ev hev
    simp only[V.den,C.den,thm4] at hx'
    obtain⟨sv',h1,h2⟩:=hx'
    obtain⟨sv2,h3,h4⟩:=hr'.rel.row id r (gr (by rw[mr];exact hq))
    rw[h1] at h3
    cases h3
    have hkd':r.kd=.sl:=by
     cases hd:r.kd with
     | sl=>rfl
     | _=>rw[hd] at hkd;cases hkd
    have h5:=h4.1 hkd'
    have h6:=h5.n
    have h7:=h5.rd.2.2.2.1
    rw[hv] at h2
    obtain⟨sa,sn,sc,sz⟩:=sv
    obtain⟨ta,tn,tc,tz⟩:=sv'
    simp only[SV.v,Value.slice.injEq] at h2
    obtain⟨rfl,rfl,rfl⟩:=h2
    simp only[nilE,E.B,E.I,hz,iG,<-h6]
    cases ta with
    | none=>
      have h8:=(h7 rfl).1
      simp only at h8
      subst h8
      simp
    | some q=>simp
   have hh':=hh hcond
   split at hh'
   ·rename_i s' hs'
    obtain⟨e1,e2,e3,_,_,_⟩:=St.app_ok hr.le hs'
    have hrun:(execOp a.eval o).run P w=.ok (.value (.bool sv.a.isNone)) w:=by
     obtain⟨sa,sn,sc,sz⟩:=sv
     have h1:=Go.Lib.run_eql_slice_nil (P:=P) w xt et sa sn sc 0 0 hu
     simp only[execOp,hop,hv,rn hy,SV.v,eqGuard,Sem.run_bind]
     exact congrArg (fun r=>Result.andThen r fun a w'=>Result.ok (Next.value a) w') h1
    refine ek hrun (hK s' _ U' I ((apR s kw).J j) _ _ hh' (pS hg ha ⟨?_,trivial⟩) ⟨ha,fun _ _=>rfl,by simp[Kw.head],by simp[Kw.head]⟩ ⟨?_,by rw[e2.1];exact hr.len,by rw[e2.2];exact hr.own⟩)
    ·show inK .i64 (U'.i kw.vk.length)=true
     rw[hz];split<;>decide
    ·rw[e1]
     refine hr'.rel.put ?_ (fun d hd=>by rw[<-hr.own];exact e3 d hd)
     simp only[V.den,C.den,E.B,E.I,hz]
     cases sv.a<;>rfl
   ·exact hh'.elim
  ·exact h.elim
 ·exact h.elim
theorem aok (hT:∀t i,(t,i)∈cx.ty->TIok P t i) (hcl:ClOk P sp G cx ry cl X W0) {o:Oper} {s:St} {kw:Kw} {k:St->Kw->Tr} {j:J} {a:Act} {w:World} (h:(goK cl cx o s kw k).holds sp G U I) (hg:Good sp cx.sm U kw) (hr:At cx U n X W0 s j a w) {K:Act->World->Prop} {Q:Exit->Act->World->Prop}
  (hK:∀s' kw' U' I' j' a' w',(k s' kw').holds sp G U' I'->Good sp cx.sm U' kw'->Nx kw kw' U U' I I'->At cx U' n X W0 s' j' a' w'->K a' w'):o.wpIn (Fw ro) 0 P a w K Q:=by
 unfold goK at h
 split at h
 ·rename_i xt x y yt hop
  split at h
  ·rename_i hy
   split at h
   ·rename_i id hx;exact iQ (by simp[hop]) (ar3 hT hop hy hx h hg hr hK)
   ·rename_i hx
    split at h
    ·rename_i i hi
     split at h
     ·rename_i hsl
      split at h
      ·rename_i s' hs'
       obtain⟨et,het⟩:=Option.isSome_iff_exists.1 hsl
       have hu:=(hT _ _ (ao hi)).sle et het
       obtain⟨e1,e2,e3,_,_,_⟩:=St.app_ok hr.le hs'
       have hv:a.eval x=.slice none 0 0:=(Option.some.inj (hr.ev hx)).symm
       have hrun:(execOp a.eval o).run P w=.ok (.value (.bool true)) w:=by
        have h1:=Go.Lib.run_eql_slice_nil (P:=P) w xt et none 0 0 0 0 hu
        simp only[execOp,hop,hv,rn hy,eqGuard,Sem.run_bind]
        exact congrArg (fun r=>Result.andThen r fun a w'=>Result.ok (Next.value a) w') h1
       refine iQ (by simp[hop]) (ek hrun (hK s' kw U I j _ w h hg (.of (.refl _) _ _) ⟨?_,by rw[e2.1];exact hr.len,by rw[e2.2];exact hr.own⟩))
       rw[e1]
       exact hr.rel.put rfl (fun d hd=>by rw[<-hr.own];exact e3 d hd)
      ·exact h.elim
     ·exact h.elim
    ·exact h.elim
   ·exact h.elim
  ·exact h.elim
 ·rename_i c hop
  split at h
  ·rename_i f hc
   have run:∀(g:Nat) (vals:List Value),(execOp a.eval o).run P w=(callFunc g vals.toArray).run P w->((callFunc g vals.toArray).run P w=.ok (.enter g vals.toArray) w/\Calls P g vals.toArray w fun e w'=>∃u,e=.returned u/\K (a.put o.dst u) w')->o.wpIn (Fw ro) 0 P a w K Q:=by
    intro g vals h6 ⟨h7,h8⟩
    refine iQ (by simp[hop]) ?_
    unfold Oper.wp
    rw[h6,h7]
    show Calls P g _ w _
    refine h8.mono ?_
    rintro e' w' ⟨u,rfl,hk⟩
    exact hk
   split at h
   ·rename_i g args hf hl
    split at h<;>first | exact h.elim | skip
    rename_i hgb
    have hgb:g<yB:=by simpa[Nat.blt_eq] using hgb
    obtain⟨h1,h2⟩:=iK (U:=U) (j:=j) (a:=a) hl (fun x _ v hv=>hr.ev hv)
    have h4:=hr.ev hf
    have h5:a.eval f=.func (.func g) #[] #[]:=(Option.some.inj h4).symm
    refine run g (c.args.toList.map a.eval) ?_ (ai1 hcl hgb h hg hr (by simpa using h2) (fun i x hx=> ?_) hK)
    ·have h7:c.args.map a.eval=(c.args.toList.map a.eval).toArray:=by rw[<-ef]
     rw[<-h7]
     simp only[execOp,hop,resolve,hc,h5,Deferred.ofValue,Sem.run_bind,Sem.run_pure,Result.andThen_ok,invoke,Array.empty_append,Array.append_empty]
    ·have hlt:i<(c.args.toList.map a.eval).length:=by
      have:=(cf.1 hx).1
      rw[h2];exact this
     exact⟨_,thm6 hlt,h1 i x _ hx (thm6 hlt)⟩
   ·rename_i g fs ps args hf hl
    split at h<;>first | exact h.elim | skip
    rename_i hgb
    have hgb:g<yB:=by simpa[Nat.blt_eq] using hgb
    obtain⟨h1,h2⟩:=iK (U:=U) (j:=j) (a:=a) hl (fun x _ v hv=>hr.ev hv)
    obtain⟨x,y,hx,hy,h5⟩:=eM (show cloV g (dH j fs) (dH j ps)=some (a.eval f) from hr.ev hf)
    obtain⟨e1,e2⟩:=lK (U:=U) hx
    obtain⟨e3,e4⟩:=lK (U:=U) hy
    have e5:∀(i:Nat) z,args[i]? =some z->∃u,(c.args.toList.map a.eval)[i]? =some u/\z.den U j=some u:=fun i z hz=>by
     have hlt:i<(c.args.toList.map a.eval).length:=by
      have:=(cf.1 hz).1
      rw[h2];exact this
     exact⟨_,thm6 hlt,h1 i z _ hz (thm6 hlt)⟩
    refine run g (x++c.args.toList.map a.eval++y) ?_ (ai1 hcl hgb h hg hr (by simp only[eV,e1,e3,h2]) (nK (by simp only[eV,e1,h2]) (nK e1 e2 e5) e4) hK)
    have h7:c.args.map a.eval=(c.args.toList.map a.eval).toArray:=by rw[<-ef]
    have h8:(x++c.args.toList.map a.eval++y).toArray=x.toArray++c.args.map a.eval++y.toArray:=by rw[h7];simp
    rw[h8]
    simp only[execOp,hop,resolve,hc,h5,Deferred.ofValue,Sem.run_bind,Sem.run_pure,Result.andThen_ok,invoke]
   ·rename_i id args hf hl
    obtain⟨h1,h2⟩:=iK (U:=U) (j:=j) (a:=a) hl (fun x _ v hv=>hr.ev hv)
    have h4:(j.g.y id).map (fun l=>Value.func (.yield l) #[] #[])=some (a.eval f):=hr.ev hf
    rw[thm4] at h4
    obtain⟨l,hyl,h5⟩:=h4
    obtain⟨f',tmps',assign',body',h6,h7⟩:=asf hcl h hg hr (vals:=c.args.toList.map a.eval) (by simpa using h2) hyl (fun i x hx=>by
     have hlt:i<(c.args.toList.map a.eval).length:=by
      have:=(cf.1 hx).1
      rw[h2];exact this
     exact⟨_,thm6 hlt,h1 i x _ hx (thm6 hlt)⟩) hK
    have h8:c.args.map a.eval=(c.args.toList.map a.eval).toArray:=by rw[<-ef]
    refine⟨fun _ _=>trivial,?_⟩
    rw[Oper.semAt_eq _ _ _ (by simp[hop])]
    have h9:(execOp a.eval o).run P w=.ok (.round l f' tmps' assign' body') w:=by
     rw[<-h6,<-h8]
     simp only[execOp,hop,resolve,hc,<-h5,Deferred.ofValue,Sem.run_bind,Sem.run_pure,Result.andThen_ok,invoke,Array.empty_append,Array.append_empty]
    rw[h9]
    refine⟨acx,(h7 ro).mono ?_⟩
    rintro e' w' ⟨u,rfl,hk⟩
    exact hk
   ·exact h.elim
  ·exact h.elim
 ·rename_i x hop
  split at h
  ·rename_i id mid hx
   exact h.elim
  ·exact h.elim
 ·exact h.elim
theorem an6 {rs:List Rec} {o:Oper} (h:rs.map (·.o)=[o]):∃r,rs=[r]:=by
 cases rs with
 | nil=>cases h
 | cons r l=>cases l with
   | nil=>exact⟨r,rfl⟩
   | cons=>simp at h
theorem aa2 {o:Oper} {i:Nat} (ho:ops[i]? =some o) {s:St} {kw:Kw} {k:St->Kw->Tr} {j:J} {a:Act} {w:World} (h:(akJ o s kw k).holds sp G U I) (hg:Good sp cx.sm U kw) (hr:At cx U n X W0 s j a w) (hw:Region.wanted o (yielded ops a.tmps)=false)
  {K:Act->World->Prop} {Q:Exit->Act->World->Prop}
  (hK:∀s' kw' U' I' j' a' w',(k s' kw').holds sp G U' I'->Good sp cx.sm U' kw'->Nx kw kw' U U' I I'->At cx U' n X W0 s' j' a' w'->K a' w'):wpOpIn (Fw ro) 0 P ops Q i K a w:=by
 unfold akJ at h
 split at h
 ·rename_i s' hs'
  obtain⟨e1,e2,e3,_,_,_⟩:=St.app_ok hr.le hs'
  unfold wpOpIn
  simp only[ho,hw]
  refine⟨fun _ _=>trivial,hK s' kw U I j _ w h hg (.refl _ _ _) ⟨?_,by rw[e2.1];exact hr.len,by rw[e2.2];exact hr.own⟩⟩
  rw[e1]
  exact hr.rel.put rfl (fun d hd=>by rw[<-hr.own];exact e3 d hd)
 ·exact h.elim
theorem ajP (hT:∀t i,(t,i)∈cx.ty->TIok P t i) (hS:∀s∈cx.sm,SmOk P sp s) (hkeys:∀s∈cx.sm,∀s'∈cx.sm,s.key=s'.key->s=s') (hcl:ClOk P sp G cx ry cl X W0) {o:Oper} {i:Nat} (ho:ops[i]? =some o) {s:St} {kw:Kw} {k:St->Kw->Tr} {j:J} {a:Act} {w:World}
  (h:(barK cl cx ops o s kw k).holds sp G U I) (hg:Good sp cx.sm U kw) (hr:At cx U n X W0 s j a w) {K:Act->World->Prop} {Q:Exit->Act->World->Prop}
  (hK:∀s' kw' U' I' j' a' w',(k s' kw').holds sp G U' I'->Good sp cx.sm U' kw'->Nx kw kw' U U' I I'->At cx U' n X W0 s' j' a' w'->K a' w'):wpOpIn (Fw ro) 0 P ops Q i K a w:=by
 unfold barK at h
 split at h
 ·obtain⟨rs,s',kw',h1,g1,l1,h2,h3,h4,h5⟩:=mB (P:=P) (base:=W0.heap.size) hT hS hkeys hcl.2.1.symm [o] s kw _ h hg hr.le
  obtain⟨r,rfl⟩:=an6 h2
  have e2:r.o=o:=by simpa using h2
  have h6:=h5 0 r rfl
  rw[hr.own] at h6
  subst e2
  refine lr hr.rel h6 ho (fun j' a' w' h'=>hK s' kw' U I j' a' w' h1 g1 (.of l1 _ _) ⟨?_,by rw[h4.1];exact hr.len,by rw[h4.2];exact hr.own⟩)
  rw[h3]
  exact h'
 ·split at h
  ·rename_i hgd
   unfold wpOpIn
   simp only[ho,Region.wanted,hgd,if_true]
   exact aok hT hcl h hg hr hK
  ·rename_i g b hgd
   have tmpAt:∀v,((ops[g]?).bind (·.dst)).bind (fun t=>if Nat.blt t s.n then s.tmps.get? t else none)=some v->∃t,(ops[g]?).bind (·.dst)=some t/\t<n/\s.fs.tmp t=v:=by
    intro v h
    rw[bS] at h
    obtain⟨t,h1,h2⟩:=h
    split at h2
    ·rename_i ht
     refine⟨t,h1,?_,by simp[St.fs,fsOf,h2]⟩
     rw[<-hr.own]
     simpa[Nat.blt_eq] using ht
    ·cases h2
   split at h
   ·rename_i e he
    obtain⟨t,h1,h2,h3⟩:=tmpAt _ he
    obtain⟨h4,-⟩:=lS hr.rel h1 h2
    have h5:=h4 e h3
    obtain⟨kw1,h6,g6,v6,l6⟩:=ba _ _ _ h hg
    have hnx:Nx kw kw1 U U I I:=.of l6 _ _
    have hw:Region.wanted o (yielded ops a.tmps)=(e.B U==b):=by
     simp only[Region.wanted,hgd,h5]
     cases e.B U<;>cases b<;>rfl
    split at h6
    ·rename_i hb
     unfold wpOpIn
     simp only[ho,hw,hb,if_true]
     exact(aok hT hcl h6 g6 hr (fun s' kw' U' I' j' a' w' q1 q2 q3 q4=>hK s' kw' U' I' j' a' w' q1 q2 (hnx.trans q3) q4))
    ·rename_i hb
     exact aa2 ho h6 g6 hr (by rw[hw];simpa using hb) (fun s' kw' U' I' j' a' w' q1 q2 q3 q4=>hK s' kw' U' I' j' a' w' q1 q2 (hnx.trans q3) q4)
   ·rename_i he
    obtain⟨t,h1,h2,h3⟩:=tmpAt _ he
    obtain⟨-,h4⟩:=lS hr.rel h1 h2
    refine aa2 ho h hg hr ?_ hK
    simp only[Region.wanted,hgd,h4 h3]
    rfl
   ·exact h.elim
theorem aig (hT:∀t i,(t,i)∈cx.ty->TIok P t i) (hS:∀s∈cx.sm,SmOk P sp s) (hkeys:∀s∈cx.sm,∀s'∈cx.sm,s.key=s'.key->s=s') (hcl:ClOk P sp G cx ry cl X W0) {Q:Exit->Act->World->Prop}:
  ∀(l:List Oper) (i:Nat),(∀(m:Nat) o,l[m]? =some o->ops[i+m]? =some o)->∀(s:St) (kw:Kw) (k:St->Kw->Tr) (U:Env) (I:Nat->List Dt->Prop) (j:J) (a:Act) (w:World),(regS cl cx ops l s kw k).holds sp G U I->Good sp cx.sm U kw->At cx U n X W0 s j a w->
   (∀s' kw' U' I' j' a' w',(k s' kw').holds sp G U' I'->Good sp cx.sm U' kw'->Nx kw kw' U U' I I'->At cx U' n X W0 s' j' a' w'->Q .normal a' w')->wpOpsIn (Fw ro) 0 P ops Q (List.range' i l.length) a w
 | [],i,hi,s,kw,k,U,I,j,a,w,h,hg,hr,hK=>by
   simp only[List.length_nil,List.range'_zero,wpOpsIn]
   exact hK s kw U I j a w h hg (.refl _ _ _) hr
 | o::l,i,hi,s,kw,k,U,I,j,a,w,h,hg,hr,hK=>by
   simp only[List.length_cons,List.range'_succ]
   rw[wpOpsIn_cons]
   have ho:ops[i]? =some o:=hi 0 o rfl
   have tail:∀s' kw' U' I' j' a' w',(regS cl cx ops l s' kw' k).holds sp G U' I'->Good sp cx.sm U' kw'->Nx kw kw' U U' I I'->At cx U' n X W0 s' j' a' w'->wpOpsIn (Fw ro) 0 P ops Q (List.range' (i+1) l.length) a' w':=
    fun s' kw' U' I' j' a' w' q1 q2 q3 q4=>aig hT hS hkeys hcl l (i+1) (fun m o hm=>by rw[Nat.add_assoc,Nat.add_comm 1 m];exact hi (m+1) o (by simpa using hm)) s' kw' k U' I' j' a' w' q1 q2 q4
     (fun s2 kw2 U2 I2 j2 a2 w2 p1 p2 p3 p4=>hK s2 kw2 U2 I2 j2 a2 w2 p1 p2 (q3.trans p3) p4)
   simp only[regS] at h
   split at h
   ·exact ajP hT hS hkeys hcl ho h hg hr tail
   ·obtain⟨rs,s',kw',h1,g1,l1,h2,h3,h4,h5⟩:=mB (P:=P) (base:=W0.heap.size) hT hS hkeys hcl.2.1.symm [o] s kw _ h hg hr.le
    obtain⟨r,rfl⟩:=an6 h2
    have e2:r.o=o:=by simpa using h2
    have h6:=h5 0 r rfl
    rw[hr.own] at h6
    subst e2
    refine lr hr.rel h6 ho (fun j' a' w' h'=>tail s' kw' U I j' a' w' h1 g1 (.of l1 _ _) ⟨?_,by rw[h4.1];exact hr.len,by rw[h4.2];exact hr.own⟩)
    rw[h3]
    exact h'
end
section
variable {P:Program} {sp:Spec} {U:Env} {G:Env->E->Prop} {I:Nat->List Dt->Prop} {cx:Cx} {cl:ClK} {n:Nat} {X:List Value} {W0:Wb} {ro:Option Nat} {ry:Option RfS} {ops:Array Oper}
theorem nJ:∀(l:List Oper) (k i:Nat) (p:Nat×Oper),(eK k l)[i]? =some p->p.1=k+i/\l[i]? =some p.2
 | [],k,i,p,h=>by simp[eK] at h
 | o::l,k,i,p,h=>by
   cases i with
   | zero=>simp only[eK,bT,bk] at h;subst h;exact⟨rfl,rfl⟩
   | succ i=>
     have:=nJ l (k+1) i p (by simpa[eK] using h)
     exact⟨by omega,by simpa using this.2⟩
theorem pZ:∀(l:List Oper) (k:Nat),(eK k l).length=l.length
 | [],_=>rfl
 | _::l,k=>by simp[eK,pZ l (k+1)]
theorem qa:∀(l:List Oper) (k:Nat),(eK k l).map (·.1)=List.range' k l.length
 | [],_=>rfl
 | _::l,k=>by simp[eK,qa l (k+1),List.range'_succ]
theorem amB {k:Nat} {o:Oper} (h:ops[k]? =some o):(k,o)∈eK 0 ops.toList:=by
 have hk:k<ops.toList.length:=by have:=(fm.1 h).1;simpa using this
 have hl:k<(eK 0 ops.toList).length:=by rw[pZ];exact hk
 have h1:=thm6 hl
 obtain⟨e1,e2⟩:=nJ _ _ _ _ h1
 have e3:ops.toList[k]? =some o:=by rw[jD];exact h
 rw[e3] at e2
 have:(eK 0 ops.toList)[k]=(k,o):=Prod.ext (by omega) (Option.some.inj e2).symm
 rw[<-this]
 exact List.getElem_mem hl
theorem ajn {p:Nat×Oper} (h:p∈eK 0 ops.toList):ops[p.1]? =some p.2:=by
 obtain⟨i,hi⟩:=List.getElem?_of_mem h
 obtain⟨h1,h2⟩:=nJ _ 0 i p hi
 rw[h1,bt,<-jD];exact h2
theorem xZ {l:List (Nat×Oper)} {p:Nat×Oper} (h:lI cx l=some p):p∈l:=by
 induction l with
 | nil=>cases h
 | cons q l ih=>
   rw[lI] at h
   by_cases hb:ase cx q.2=true
   ·rw[if_pos hb] at h
    rw[<-Option.some.inj h]
    exact bD
   ·rw[if_neg hb] at h
    exact cm _ (ih h)
theorem xN:∀(l:List Oper) (ms:List Nat),(l.foldl (fun ms o=>ms++[gM o ms]) ms).length=ms.length+l.length
 | [],ms=>rfl
 | o::l,ms=>by simp only[List.foldl_cons,xN l,eV,List.length_cons,List.length_nil];omega
theorem ach:∀(l:List Oper) (ms:List Nat) (i:Nat),(i<ms.length->(l.foldl (fun ms o=>ms++[gM o ms]) ms)[i]? =ms[i]?)/\
  ∀o,l[i]? =some o->∃pre,pre.length=ms.length+i/\(∀k,k<pre.length->(l.foldl (fun ms o=>ms++[gM o ms]) ms)[k]? =pre[k]?)/\(l.foldl (fun ms o=>ms++[gM o ms]) ms)[ms.length+i]? =some (gM o pre)
 | [],ms,i=>⟨fun _=>rfl,fun o h=>by simp at h⟩
 | o::l,ms,i=>by
   simp only[List.foldl_cons]
   have ih:=ach l (ms++[gM o ms])
   refine⟨fun h=>by rw[(ih i).1 (by simp;omega),thm8 h],fun o' h=> ?_⟩
   cases i with
   | zero=>
     simp only[bT,bk] at h
     subst h
     refine⟨ms,rfl,fun k hk=>by rw[(ih k).1 (by simp;omega),thm8 hk],?_⟩
     rw[Nat.add_zero,(ih ms.length).1 (by simp),thm9 (Nat.le_refl _)]
     simp
   | succ i=>
     obtain⟨pre,h1,h2,h3⟩:=(ih i).2 o' (by simpa using h)
     simp only[eV,List.length_cons,List.length_nil] at h1 h3
     exact⟨pre,by omega,h2,by rw[show ms.length+(i+1)=ms.length+(0+1)+i by omega];exact h3⟩
theorem iH:∀(i k:Nat),lP (eD ops) i k=true->ajW ops k i:=by
 intro i
 induction i using Nat.strongRecOn with
 | _ i ih=>
   intro k hk sel hc hd
   unfold lP at hk
   cases ho:ops.toList[i]? with
   | none=>
     have hge:=List.getElem?_eq_none_iff.1 ho
     rw[cW,bI (by unfold eD;rw[xN];simp at hge ⊢;omega)] at hk
     simp at hk
   | some o=>
     obtain⟨pre,h1,h2,h3⟩:=(ach ops.toList [] i).2 o ho
     simp only[List.length_nil,bt] at h1 h3
     rw[cW,show(eD ops)[i]? =some (gM o pre) from h3] at hk
     have ho':ops[i]? =some o:=by rw[<-jD];exact ho
     rcases uC _ 0 hk with h4 | ⟨e,h4,h5,h6⟩
     ·simp at h4
     ·have h4':e∈o.after:=by simpa using h4
      have hs:=hd o ho' e h4' h5
      rcases h6 with rfl | h6
      ·exact hs
      ·have hlt:e.on<pre.length:=by
        rcases aX e.on pre.length with h7 | h7
        ·exact h7
        ·rw[cW,bI h7] at h6
         simp at h6
       have h7:lP (eD ops) e.on k=true:=by
        unfold lP
        rw[cW,show(eD ops)[e.on]? =pre[e.on]? from h2 e.on hlt,<-cW]
        exact h6
       exact ih e.on (by omega) k h7 sel hc (fun o' ho2 e' he' hb'=>hc e.on o' ho2 hs e' he' hb')
theorem amP (hT:∀t i,(t,i)∈cx.ty->TIok P t i) {sel sel':Nat->Bool} {i:Nat} {o:Oper} (h:ajg cx ops sel i o=true) (hsel:∀k,k<ops.size->sel k=true->k≠i->sel' k=true):Float P ops sel' i o:=by
 simp only[ajg,thm0] at h
 obtain⟨h1,h2,h3,h4⟩:=h
 refine⟨fun a w K hw=> ?_,by simpa using h1,h3,fun k ok hk hne hs hno=> ?_⟩
 rotate_left
 ·have hkl:k<ops.size:=(fm.1 hk).1
  have hm:(k,ok)∈eK 0 ops.toList:=amB hk
  have h5:=thm7.1 h4 (k,ok) hm
  simp only[bH] at h5
  rcases h5 with h5 | h5 | h5 | h5
  ·exact absurd (thm1 h5) hne
  ·rw[hsel k hkl h5 hne] at hs;cases hs
  ·obtain⟨e,he,hb⟩:=List.any_eq_true.1 h5
   rw[thm0] at hb
   exact absurd (thm1 hb.2) (hno e (by simpa using he) hb.1)
  ·exact h5
 split at h2
 ·rename_i x hop;exact qG (.inl hop) a
 ·rename_i x hop;exact qG (.inr hop) a
 ·rename_i s x f hop
  split at h2
  ·rename_i ti hti
   obtain⟨p,hp⟩:=Option.isSome_iff_exists.1 h2
   exact yL hop (hT _ _ (ao hti)) (off:=p.1) (ft:=p.2) hp hw
  ·cases h2
 ·rename_i t x y hop;exact yK hop hw
 ·rename_i x hop;exact afD hop hw
 ·rename_i t x l h' m hop;exact yJ hop hw
 ·cases h2
theorem aip {ms:List Nat} {p:Nat×Rec} {l:List (Nat×Rec)} (h:ab4 ops ms p l=true) (q:Nat×Rec) (hq:q∈l):lP ms p.1 q.1=true\/Indep ops q.2 p.2:=by
 induction l with
 | nil=>cases hq
 | cons x l ih=>
   rw[ab4,thm0,bH] at h
   rcases List.mem_cons.1 hq with e | hq
   ·rw[e]
    exact h.1.imp id acr
   ·exact ih h.2 hq
theorem og {ms:List Nat}:∀{l pre:List (Nat×Rec)},nt ops ms pre l=true->∀(m q:Nat) x r,m<q->pre.length<=q->(pre++l)[m]? =some x->(pre++l)[q]? =some r->lP ms r.1 x.1=true\/Indep ops x.2 r.2
 | [],pre,_,m,q,x,r,hm,hq,hx,hr=>by rw[List.append_nil,bI hq] at hr;cases hr
 | p::l,pre,h,m,q,x,r,hm,hq,hx,hr=>by
   simp only[nt,thm0] at h
   rcases aX pre.length q with h1 | h1
   ·exact og h.2 m q x r hm (by simp;omega) (by simpa using hx) (by simpa using hr)
   ·have:q=pre.length:=by omega
    subst this
    rw[thm9 (Nat.le_refl _)] at hr
    simp only[Nat.sub_self,bT,bk] at hr
    subst hr
    rw[thm8 hm] at hx
    exact aip h.1 x (fq hx)
theorem aed:∀{A:List (Nat×Oper)} {rs:List Rec},rs.map (·.o)=A.map (·.2)->∀(m:Nat) p,((A.map (·.1)).zip rs)[m]? =some p->A[m]? =some (p.1,p.2.o)/\rs[m]? =some p.2
 | [],rs,_,m,p,hp=>by simp at hp
 | a::A,[],h,m,p,hp=>by simp at h
 | a::A,r::rs,h,m,p,hp=>by
   simp only[List.map_cons,thm5] at h
   cases m with
   | zero=>
     simp only[List.map_cons,List.zip_cons_cons,bT,bk] at hp
     subst hp
     exact⟨by rw[h.1];rfl,rfl⟩
   | succ m=>exact aed h.2 m p (by simpa using hp)
theorem yw:∀{A:List (Nat×Oper)} {rs:List Rec},rs.map (·.o)=A.map (·.2)->((A.map (·.1)).zip rs).map (·.1)=A.map (·.1)
 | [],rs,_=>by simp
 | a::A,[],h=>by simp at h
 | a::A,r::rs,h=>by
   simp only[List.map_cons,thm5] at h
   simp[yw h.2]
theorem rM:∀{A:List (Nat×Oper)} {rs:List Rec} (F:Ua),rs.map (·.o)=A.map (·.2)->∀m,qw (((A.map (·.1)).zip rs).take m) F=full (rs.take m) F
 | [],[],F,_,m=>by simp[qw,full]
 | [],r::rs,F,h,m=>by simp at h
 | a::A,[],F,h,m=>by simp at h
 | a::A,r::rs,F,h,m=>by
   simp only[List.map_cons,thm5] at h
   cases m with
   | zero=>rfl
   | succ m=>
     simp only[List.map_cons,List.zip_cons_cons,List.take_succ_cons,qw,full,List.foldl_cons]
     exact rM (F.rec' r) h.2 m
theorem asB (h:rG ops=true) {i:Nat} {o:Oper} (ho:ops[i]? =some o):∀e∈o.after,Region.binds .any e=true->e.on<i:=by
 intro e he hb
 have hm:(i,o)∈eK 0 ops.toList:=by
  have hlt:=(fm.1 ho).1
  have:i<(eK 0 ops.toList).length:=by rw[pZ];simpa using hlt
  have h1:=thm6 this
  obtain⟨h2,h3⟩:=nJ _ 0 i _ h1
  rw[<-jD] at ho
  rw[ho] at h3
  have:(eK 0 ops.toList)[i]=(i,o):=Prod.ext (by rw[h2,bt]) (Option.some.inj h3).symm
  rw[<-this];exact List.getElem_mem _
 unfold rG at h
 rw[thm0] at h
 have:=thm7.1 (thm7.1 h.2 _ hm) e (by simpa using he)
 simpa[hb,Nat.blt_eq] using this
theorem adt (h:rG ops=true) (j:Nat) (o:Oper) (c:Call) (ho:ops[j]? =some o):o.op≠.defer c:=by
 unfold rG at h
 rw[thm0] at h
 have:=thm7.1 h.1 o (by rw[<-jD] at ho;exact fq ho)
 intro e
 rw[e] at this
 cases this
theorem arI (hT:∀t i,(t,i)∈cx.ty->TIok P t i) (hS:∀s∈cx.sm,SmOk P sp s) (hkeys:∀s∈cx.sm,∀s'∈cx.sm,s.key=s'.key->s=s') (hcl:ClOk P sp G cx ry cl X W0) (hb:rG ops=true) {Q:Exit->Act->World->Prop} (hQ:∀c a w,¬Q (.panic c) a w):
  ∀(m:Nat) (todo:List (Nat×Oper)) (s:St) (kw:Kw) (k:St->Kw->Tr) (U:Env) (I:Nat->List Dt->Prop) (listed:Array Bool) (j:J) (a:Act) (w:World),(regD cl cx ops (eD ops) m todo s kw k).holds sp G U I->Good sp cx.sm U kw->At cx U n X W0 s j a w->
   (∀p∈todo,ops[p.1]? =some p.2)->(todo.map (·.1)).Nodup->listed.size=ops.size->fT ops (fun i=>listed.getD i false)->(∀i,i<ops.size->(listed.getD i false=false↔∃p∈todo,p.1=i))->
   (∀s' kw' U' I' j' a' w',(k s' kw').holds sp G U' I'->Good sp cx.sm U' kw'->Nx kw kw' U U' I I'->At cx U' n X W0 s' j' a' w'->Q .normal a' w')->∀fuel,cnt ops listed<=fuel->wpAnyIn (Fw ro) 0 P .any ops Q fuel listed a w:=by
 intro m
 induction m with
 | zero=>intro todo s kw k U I listed j a w h;exact h.elim
 | succ m ih=>
   intro todo s kw k U I listed j a w h hg hr hop hnd hsz hc hun hK fuel hf
   have part:∀(A:List (Nat×Oper)) (outs:List (Nat×Oper)) (rs:List Rec) (s':St) (kw':Kw),(∀p∈A,p∈todo)->(A.map (·.1)).Nodup->(∀p∈todo,p∈A\/∃q∈outs,q.1=p.1)->
    KwGe kw' kw->rs.map (·.o)=A.map (·.2)->s'.fs=full rs s.fs->(s'.tmps.length=s.tmps.length/\s'.n=s.n)->(∀(m:Nat) r,rs[m]? =some r->RecOk P W0.hw U s.n W0.heap.size cx.fbs ops r (full (rs.take m) s.fs))->akQ cx ops (eD ops) ((A.map (·.1)).zip rs) outs=true->
    (∀(listed':Array Bool) j' a' w',listed'.size=ops.size->fT ops (fun i=>listed'.getD i false)->(∀i,listed'.getD i false=true↔(listed.getD i false=true\/∃p∈A,p.1=i))->At cx U n X W0 s' j' a' w'->∀fuel,cnt ops listed'<=fuel->wpAnyIn (Fw ro) 0 P .any ops Q fuel listed' a' w')->
    wpAnyIn (Fw ro) 0 P .any ops Q fuel listed a w:=by
    intro A outs rs s' kw' hA hndA hcov hkw h2 h3 h4 h5 hseg hend
    simp only[akQ,thm0] at hseg
    obtain⟨g1,g2,g3⟩:=hseg
    have memL:∀p,p∈(A.map (·.1)).zip rs->(p.1,p.2.o)∈A:=fun p hp=>by
     obtain⟨i,hi⟩:=List.getElem?_of_mem hp
     exact fq (aed h2 i p hi).1
    have idxL:∀i,(∃p∈A,p.1=i)->∃p∈(A.map (·.1)).zip rs,p.1=i:=fun i ⟨p,hp,e⟩=>by
     have:i∈((A.map (·.1)).zip rs).map (·.1):=by rw[yw h2];exact List.mem_map.2 ⟨p,hp,e⟩
     obtain⟨q,hq,e2⟩:=List.mem_map.1 this
     exact⟨q,hq,e2⟩
    refine apS (fb:=cx.fbs) (n:=n) (X:=X) (W0:=W0) (U:=U) (F0:=s.fs) (L:=(A.map (·.1)).zip rs) (base:=fun i=>listed.getD i false) hQ (adt hb) (fun p hp=>hop _ (hA _ (memL p hp))) (by rw[yw h2];exact hndA) (fun i p hp=> ?_) (fun i q x r hiq hx hq=> ?_) (fun p hp e he hbd=> ?_) (fun i hi hbase hnot p hp=> ?_) (fun listed' j' a' w' hs' hc' hl' hrel=> ?_)
     _ listed j a w (Nat.le_refl _) hsz hc (fun i hi=>.inl hi) (fun i hi=>hi) ?_ fuel hf
    ·rw[rM s.fs h2]
     have:=h5 i p.2 (aed h2 i p hp).2
     rw[hr.own] at this
     exact this
    ·rcases og g1 i q x r hiq (Nat.zero_le _) (by simpa using hx) (by simpa using hq) with h6 | h6
     ·exact .inr (iH _ _ h6)
     ·exact .inl h6
    ·have h6:=thm7.1 (thm7.1 g2 p hp) e (by simpa using he)
     simp only[hbd,Bool.not_true,Bool.false_or,thm0,Nat.blt_eq] at h6
     refine⟨h6.1,?_⟩
     cases hbl:listed.getD e.on false with
     | true=>exact .inl rfl
     | false=>
       right
       have hpl:=(fm.1 (hop _ (hA _ (memL p hp)))).1
       obtain⟨q,hq,e1⟩:=(hun e.on (Nat.lt_trans h6.1 hpl)).1 hbl
       rcases hcov q hq with h7 | ⟨q2,h7,e2⟩
       ·exact idxL _ ⟨q,h7,e1⟩
       ·exfalso
        have:=thm7.1 h6.2 q2 h7
        rw[e2,e1] at this
        simp at this
    ·obtain⟨q,hq,e1⟩:=(hun i hi).1 hbase
     rcases hcov q hq with h7 | ⟨q2,h7,e2⟩
     ·exfalso
      obtain⟨x,hx,ex⟩:=idxL i ⟨q,h7,e1⟩
      exact hnot x hx ex
     ·have h8:=thm7.1 (thm7.1 g3 q2 h7) p hp
      simp only[bH] at h8
      rw[e2,e1] at h8
      rcases h8 with h8 | h8
      ·exact .inr (iH _ _ h8)
      ·refine .inl (amP hT h8 fun k hk hsk hne=> ?_)
       simp only[thm0,Bool.not_eq_true',List.any_eq_false,thm0] at hsk
       show(listed.getD k false||_)=true
       cases hlk:listed.getD k false with
       | true=>rfl
       | false=>
         obtain⟨q3,hq3,e3⟩:=(hun k hk).1 hlk
         rcases hcov q3 hq3 with h9 | ⟨q4,h9,e4⟩
         ·obtain⟨x,hx,ex⟩:=idxL k ⟨q3,h9,e3⟩
          have:=hsk.2 x hx
          rw[Bool.false_or,List.any_eq_true]
          refine⟨x,hx,?_⟩
          rw[ex] at this ⊢
          simpa using this
         ·have:=hsk.1 q4 h9
          rw[e4,e3] at this
          simp at this
    ·refine hend listed' j' a' w' hs' hc' (fun i=>⟨fun h=> ?_,fun h=> ?_⟩) ⟨?_,by rw[h4.1];exact hr.len,by rw[h4.2];exact hr.own⟩
     ·rcases(hl' i).1 h with h | ⟨p,hp,e⟩
      ·exact .inl h
      ·exact .inr ⟨_,memL p hp,e⟩
     ·rcases h with h | h
      ·exact(hl' i).2 (.inl h)
      ·exact(hl' i).2 (.inr (idxL i h))
     ·rw[h3]
      have:=rM s.fs h2 rs.length
      rw[List.take_of_length_le (by rw[List.length_zip];omega),List.take_of_length_le (Nat.le_refl _)] at this
      rw[<-this];exact hrel
    ·rw[qX]
     ·exact hr.rel
     ·intro p hp
      have hp':=hA _ (memL p hp)
      exact(hun p.1 (fm.1 (hop _ hp')).1).2 ⟨_,hp',rfl⟩
   simp only[regD] at h
   split at h
   ·
    obtain⟨rs,s',kw',h1,g1,l1,h2,h3,h4,h5⟩:=mB (P:=P) (base:=W0.heap.size) hT hS hkeys hcl.2.1.symm (todo.map (·.2)) s kw _ h hg hr.le
    split at h1
    ·rename_i hseg
     refine part todo [] rs s' kw' (fun p hp=>hp) hnd (fun p hp=>.inl hp) l1 h2 h3 h4 h5 hseg (fun listed' j' a' w' hs' hc' hl' hat fuel' _=> ?_)
     refine wpAnyIn_done ?_ (hK s' kw' U I j' a' w' h1 g1 (.of l1 _ _) hat) fuel'
     cases hrd:Region.ready .any ops listed' with
     | nil=>rfl
     | cons i l=>
       exfalso
       have hi:i∈Region.ready .any ops listed':=by rw[hrd];exact bD
       obtain⟨hu,o,ho,_⟩:=mem_ready.1 hi
       have hil:=(fm.1 ho).1
       have:listed'.getD i true=listed'.getD i false:=by
        rw[fG,fG,Array.getElem?_eq_getElem (by omega)];rfl
       rw[this] at hu
       have h6:listed'.getD i false=true:=by
        cases hbl:listed.getD i false with
        | true=>exact(hl' i).2 (.inl hbl)
        | false=>exact(hl' i).2 (.inr ((hun i hil).1 hbl))
       rw[h6] at hu;cases hu
    ·exact h1.elim
   ·rename_i ci co hbar
    have hmem:=xZ hbar
    have hco:=hop _ hmem
    split at h
    rotate_left
    ·
     exact h.elim
    obtain⟨rs,s',kw',h1,g1,l1,h2,h3,h4,h5⟩:=mB (P:=P) (base:=W0.heap.size) hT hS hkeys hcl.2.1.symm _ s kw _ h hg hr.le
    split at h1
    ·rename_i hseg
     have idxT:∀{p q:Nat×Oper},p∈todo->q∈todo->p.1=q.1->p=q:=by
      intro p q hp hq e
      have h6:=hop p hp
      have h7:=hop q hq
      rw[e,h7] at h6
      exact Prod.ext e (Option.some.inj h6).symm
     refine part _ _ rs s' kw' (fun p hp=>(List.mem_filter.1 hp).1) (hnd.sublist (List.Sublist.map _ List.filter_sublist)) (fun p hp=> ?_) l1 h2 h3 h4 h5 hseg (fun listed' j' a' w' hs' hc' hl' hat fuel' hf'=> ?_)
     ·by_cases e1:p.1=ci
      ·exact .inr ⟨(ci,co),bD,e1.symm⟩
      ·have e2:Nat.beq p.1 ci=false:=by
        cases hb2:Nat.beq p.1 ci with
        | false=>rfl
        | true=>exact absurd (thm1 hb2) e1
       cases hbit:lP (eD ops) p.1 ci with
       | false=>exact .inl (List.mem_filter.2 ⟨hp,by simp[e2,hbit]⟩)
       | true=>exact .inr ⟨p,cm _ (List.mem_filter.2 ⟨hp,by simp[e2,hbit]⟩),rfl⟩
     ·
      have hcil:ci<ops.size:=(fm.1 hco).1
      have gd:∀i,i<ops.size->listed'.getD i true=listed'.getD i false:=fun i hi=>by
       rw[fG,fG,Array.getElem?_eq_getElem (by omega)];rfl
      have left:∀i,i<ops.size->(listed'.getD i false=false↔(i=ci\/∃p∈todo.filter fun p=>lP (eD ops) p.1 ci &&!Nat.beq p.1 ci,p.1=i)):=by
       intro i hi
       constructor
       ·intro h6
        have h7:listed.getD i false=false:=by
         cases hbl:listed.getD i false with
         | false=>rfl
         | true=>rw[(hl' i).2 (.inl hbl)] at h6;cases h6
        obtain⟨p,hp,rfl⟩:=(hun i hi).1 h7
        by_cases e1:p.1=ci
        ·exact .inl e1
        ·right
         have e2:Nat.beq p.1 ci=false:=by
          cases hb2:Nat.beq p.1 ci with
          | false=>rfl
          | true=>exact absurd (thm1 hb2) e1
         cases hbit:lP (eD ops) p.1 ci with
         | true=>exact⟨p,List.mem_filter.2 ⟨hp,by simp[e2,hbit]⟩,rfl⟩
         | false=>
           exfalso
           have:=(hl' p.1).2 (.inr ⟨p,List.mem_filter.2 ⟨hp,by simp[e2,hbit]⟩,rfl⟩)
           rw[this] at h6;cases h6
       ·intro h6
        cases hbl:listed'.getD i false with
        | false=>rfl
        | true=>
          exfalso
          rcases(hl' i).1 hbl with h7 | ⟨p,hp,e⟩
          ·have hin:∃p∈todo,p.1=i:=by
            rcases h6 with rfl | ⟨p,hp,e⟩
            ·exact⟨_,hmem,rfl⟩
            ·exact⟨p,(List.mem_filter.1 hp).1,e⟩
           rw[(hun i hi).2 hin] at h7;cases h7
          ·obtain⟨hp1,hp2⟩:=List.mem_filter.1 hp
           rcases h6 with rfl | ⟨q,hq,e2⟩
           ·rw[e] at hp2;simp at hp2
           ·obtain⟨hq1,hq2⟩:=List.mem_filter.1 hq
            have:=idxT hp1 hq1 (e.trans e2.symm)
            subst this
            simp only[thm0,Bool.not_eq_true'] at hp2 hq2
            rw[hp2.2] at hq2
            exact absurd hq2.1 (by simp)
      have hunc:listed'.getD ci false=false:=(left ci hcil).2 (.inl rfl)
      have notB:∀i,listed'.getD i false=false->i<ops.size->i≠ci->∀o,ops[i]? =some o->¬∀e∈o.after,Region.binds .any e=true->listed'.getD e.on false=true:=by
       intro i hu hil hne o ho hall
       rcases(left i hil).1 hu with h6 | ⟨p,hp,rfl⟩
       ·exact hne h6
       ·have h7:=(List.mem_filter.1 hp).2
        simp only[thm0] at h7
        have:=iH _ _ h7.1 (fun i=>listed'.getD i false) hc' (fun o' ho2 e he hb2=>by
         rw[ho] at ho2;cases ho2
         exact hall e he hb2)
        (try dsimp only at this)
        rw[hunc] at this;cases this
      obtain⟨f,rfl⟩:∃f,fuel'=f+1:=by
       cases fuel' with
       | zero=>have:=uP (ops:=ops) hs' hcil hunc;omega
       | succ f=>exact⟨f,rfl⟩
      have step:wpOpIn (Fw ro) 0 P ops Q ci (wpAnyIn (Fw ro) 0 P .any ops Q f (listed'.setIfInBounds ci true)) a' w'\/¬(∀e∈co.after,Region.binds .any e=true->listed'.getD e.on false=true):=by
       by_cases hall:∀e∈co.after,Region.binds .any e=true->listed'.getD e.on false=true
       ·left
        refine ajP hT hS hkeys hcl hco h1 g1 hat (fun s2 kw2 U2 I2 j2 a2 w2 q1 q2 q3 q4=> ?_)
        have hget:∀k,(listed'.setIfInBounds ci true).getD k false=if k=ci then true else listed'.getD k false:=by
         intro k
         rw[fG,Array.getElem?_setIfInBounds]
         by_cases hk:k=ci
         ·subst hk;simp[hs',hcil]
         ·have hik:¬ci=k:=fun e=>hk e.symm
          simp[hk,hik,fG]
        refine ih _ s2 kw2 k U2 I2 (listed'.setIfInBounds ci true) j2 a2 w2 q1 q2 q4 (fun p hp=>hop p (List.mem_filter.1 hp).1) (hnd.sublist (List.Sublist.map _ List.filter_sublist)) (by simp[hs']) (rD hs' hco hc' hall) (fun i hi=> ?_)
         (fun s3 kw3 U3 I3 j3 a3 w3 p1 p2 p3 p4=>hK s3 kw3 U3 I3 j3 a3 w3 p1 p2 ((Nx.of l1 _ _).trans (q3.trans p3)) p4) f (by have:=uP (ops:=ops) hs' hcil hunc;omega)
        rw[hget]
        split
        ·rename_i e
         subst e
         refine⟨fun h=>(by cases h),fun⟨p,hp,e⟩=> ?_⟩
         have:=(List.mem_filter.1 hp).2
         rw[e] at this
         simp at this
        ·rename_i hne
         rw[left i hi]
         exact⟨fun h=>h.resolve_left hne,.inr⟩
       ·exact .inr hall
      refine⟨fun hnil=> ?_,fun i hi=> ?_⟩
      ·exfalso
       have key:∀(k:Nat),k<ops.size->listed'.getD k false=false->False:=by
        intro k
        induction k using Nat.strongRecOn with
        | _ k ihk=>
          intro hkl hku
          obtain⟨o,ho⟩:∃o,ops[k]? =some o:=⟨ops[k],Array.getElem?_eq_getElem hkl⟩
          have:k∈Region.ready .any ops listed':=by
           rw[mem_ready]
           refine⟨by rw[gd k hkl];exact hku,o,ho,fun e he hb2=> ?_⟩
           have hlt:=asB hb ho e he hb2
           cases hbl:listed'.getD e.on false with
           | true=>rfl
           | false=>exact(ihk e.on hlt (Nat.lt_trans hlt hkl) hbl).elim
          rw[hnil] at this
          cases this
       exact key ci hcil hunc
      ·obtain⟨hu,o,ho,hall⟩:=mem_ready.1 hi
       have hil:=(fm.1 ho).1
       rw[gd i hil] at hu
       by_cases hne:i=ci
       ·subst hne
        rw[hco] at ho;cases ho
        rcases step with h6 | h6
        ·exact h6
        ·exact absurd hall h6
       ·exact absurd hall (notB i hu hil hne o ho)
    ·exact h1.elim
end
section
variable {P:Program} {sp:Spec} {U:Env} {G:Env->E->Prop} {I:Nat->List Dt->Prop} {cx:Cx} {cl:ClK} {n:Nat} {X:List Value} {W0:Wb} {ro:Option Nat} {ry:Option RfS} {rl:Option RlK}
theorem adE (tm:Nat->V) (heap:List Ob) (y:Lp):fsOf tm (heap++[.loop y])=(fsOf tm heap).setl heap.length (some y):=by
 refine Ua.ext' (fun _=>rfl) (fun b=> ?_) (fun b=> ?_) (fun b=> ?_)
 ·simp only[Ua.setl,fsOf,boxH]
  rcases Nat.lt_trichotomy b heap.length with h | h | h
  ·rw[thm8 h]
  ·subst h;simp
  ·rw[bI (by simp;omega),bI (by omega)]
 ·simp only[Ua.setl,fsOf,rowH]
  rcases Nat.lt_trichotomy b heap.length with h | h | h
  ·rw[thm8 h]
  ·subst h;simp
  ·rw[bI (by simp;omega),bI (by omega)]
 ·simp only[Ua.setl,fsOf,lpH]
  rcases Nat.lt_trichotomy b heap.length with h | h | h
  ·rw[thm8 h,if_neg (by omega)]
  ·subst h;simp
  ·rw[bI (by simp;omega),bI (by omega),if_neg (by omega)]
theorem rq {tm:Nat->V} {heap:List Ob} {id:Nat} {y:Lp} (h:heap[id]? =some (.loop y)) (y':Lp):fsOf tm (heap.set id (.loop y'))=(fsOf tm heap).setl id (some y'):=by
 have hlt:=(cf.1 h).1
 refine Ua.ext' (fun _=>rfl) (fun b=> ?_) (fun b=> ?_) (fun b=> ?_)
 ·simp only[Ua.setl,fsOf,boxH,di]
  by_cases e:id=b
  ·subst e;simp only[if_true,hlt,h]
  ·simp only[e,if_false]
 ·simp only[Ua.setl,fsOf,rowH,di]
  by_cases e:id=b
  ·subst e;simp only[if_true,hlt,h]
  ·simp only[e,if_false]
 ·simp only[Ua.setl,fsOf,lpH,di]
  by_cases e:id=b
  ·subst e;simp only[if_true,hlt]
  ·rw[if_neg e,if_neg (fun e'=>e e'.symm)]
theorem adF {tm:Nat->V} {heap:List Ob} {id:Nat} {y:Lp} (h:heap[id]? =some (.loop y)):fsOf tm (heap.set id .gone)=(fsOf tm heap).endl id:=by
 have hlt:=(cf.1 h).1
 refine Ua.ext' (fun _=>rfl) (fun b=> ?_) (fun b=> ?_) (fun b=> ?_)
 ·simp only[Ua.endl,fsOf,boxH,di]
  by_cases e:id=b
  ·subst e;simp only[if_true,hlt,h]
  ·simp only[e,if_false]
 ·simp only[Ua.endl,fsOf,rowH,di]
  by_cases e:id=b
  ·subst e;simp only[if_true,hlt]
  ·rw[if_neg e,if_neg (fun e'=>e e'.symm)]
 ·simp only[Ua.endl,fsOf,lpH,di]
  by_cases e:id=b
  ·subst e;simp only[if_true,hlt]
  ·rw[if_neg e,if_neg (fun e'=>e e'.symm)]
theorem mZ {heap:List Ob} {id:Nat} {y:Lp}:lpH heap id=some y↔heap[id]? =some (.loop y):=by
 unfold lpH
 constructor
 ·intro h
  split at h
  ·rename_i y' hy;cases h;exact hy
  ·cases h
 ·intro h;rw[h]
theorem ar2 {heap:List Ob} (h:uz heap=true) (i:Nat):lpH heap i=none:=by
 cases hl:lpH heap i with
 | none=>rfl
 | some y=>
   have:=thm7.1 h _ (fq (mZ.1 hl))
   cases this
theorem aix {heap:List Ob} {id:Nat} (h:uz (heap.set id .gone)=true) (i:Nat) (y:Lp) (hy:lpH heap i=some y):i=id:=by
 refine Classical.byContradiction fun hne=> ?_
 have h1:=ar2 h i
 have h2:=mZ.1 hy
 have:(heap.set id .gone)[i]? =some (.loop y):=by rw[di,if_neg (fun e=>hne e.symm)];exact h2
 rw[mZ.2 this] at h1
 cases h1
theorem acW {s:St} {j:J} {a:Act} {w:World} {W0:Wb} {f:Operand} {id g:Nat} {args:List V} (hr:At cx U n X W0 s j a w) (h:yA (evS s.n s.tmps f) id=some (g,args)):
  ∃x y:List Value,a.eval f=.func (.func g) x.toArray y.toArray/\∀(j1:J) (l:Nat),Sub j j1->j1.g.y id=some l->(x++[Value.func (.yield l) #[] #[]]++y).length=args.length/\∀(i:Nat) v,args[i]? =some v->∃u,(x++[Value.func (.yield l) #[] #[]]++y)[i]? =some u/\v.den U j1=some u:=by
 have mid:∀(j1:J) (l:Nat),j1.g.y id=some l->∀(i:Nat) v,[V.one (.yld id)][i]? =some v->∃u,[Value.func (.yield l) #[] #[]][i]? =some u/\v.den U j1=some u:=by
  intro j1 l hl i v hv
  cases i with
  | zero=>
    simp only[bT,bk] at hv
    subst hv
    exact⟨_,rfl,by simp only[V.den,C.den,hl,Option.map_some]⟩
  | succ i=>simp at hv
 unfold yA at h
 split at h
 ·rename_i g' hf
  cases h
  have h4:=hr.ev hf
  exact⟨[],[],(Option.some.inj h4).symm,fun j1 l hs hl=>⟨rfl,by simpa using mid j1 l hl⟩⟩
 ·rename_i g' fs ps hf
  cases h
  obtain⟨x,y,hx,hy,h5⟩:=eM (show cloV g (dH j fs) (dH j ps)=some (a.eval f) from hr.ev hf)
  obtain⟨e1,e2⟩:=lK (U:=U) hx
  obtain⟨e3,e4⟩:=lK (U:=U) hy
  have up:∀{j1:J} (hs:Sub j j1) {l:List V} {us:List Value},(∀(i:Nat) v,l[i]? =some v->∃u,us[i]? =some u/\v.den U j=some u)->∀(i:Nat) v,l[i]? =some v->∃u,us[i]? =some u/\v.den U j1=some u:=fun hs l us hh i v hv=>by
   obtain⟨u,h1,h2⟩:=hh i v hv
   exact⟨u,h1,V.den_sub hs h2⟩
  exact⟨x,y,h5,fun j1 l hs hl=>⟨by simp only[eV,e1,e3,List.length_singleton],nK (by simp only[eV,e1,List.length_singleton]) (nK e1 (up hs e2) (mid j1 l hl)) (up hs e4)⟩⟩
 ·cases h
theorem nL (hcl:CallOk P sp G cx ry cl) (hrl:∀f,rl=some f->ro=none/\∀r,CallOk P sp G cx (some r) (f r)) (hm:P.follows .mixedOrders=true) (hT:∀t i,(t,i)∈cx.ty->TIok P t i) (hS:∀s∈cx.sm,SmOk P sp s) (hkeys:∀s∈cx.sm,∀s'∈cx.sm,s.key=s'.key->s=s') (fuel:Nat):
  ∀(c:Code) (W0:Wb) (s:St) (kw:Kw) (k:Sig->St->Kw->Tr) (Q:Exit->Act->World->Prop) (U:Env) (I:Nat->List Dt->Prop) (j:J) (a:Act) (w:World),Tie sp ry X W0->(rl.isSome=true->W0.top=true/\W0.rf=none)->(eW cl rl cx fuel c s kw k).holds sp G U I->Good sp cx.sm U kw->At cx U n X W0 s j a w->
   (∀M' sg s' kw' U' I' j' a' w',(rl=none->M'=W0.M)->(k sg s' kw').holds sp G U' I'->Good sp cx.sm U' kw'->Ag kw.vk.length U U'->(∀m,m<kw.lv->I' m=I m)->kw.lv<=kw'.lv->kw.vk.length<=kw'.vk.length->At cx U' n X {W0 with M:=M'} s' j' a' w'->Q sg.exit' a' w')->c.wpIn (Fw ro) 0 P Q a w:=by
 intro c
 induction c with
 | skip=>intro W0 s kw k Q U I j a w ht hrt h hg hr hQ;exact wpIn_skip (hQ W0.M _ _ _ _ _ _ _ _ (fun _=>rfl) h hg (.refl _ _) (fun _ _=>rfl) (Nat.le_refl _) (Nat.le_refl _) hr)
 | label l=>intro W0 s kw k Q U I j a w ht hrt h hg hr hQ;exact wpIn_label (hQ W0.M _ _ _ _ _ _ _ _ (fun _=>rfl) h hg (.refl _ _) (fun _ _=>rfl) (Nat.le_refl _) (Nat.le_refl _) hr)
 | exit id=>intro W0 s kw k Q U I j a w ht hrt h hg hr hQ;exact wpIn_exit (hQ W0.M (.exit id) _ _ _ _ _ _ _ (fun _=>rfl) h hg (.refl _ _) (fun _ _=>rfl) (Nat.le_refl _) (Nat.le_refl _) hr)
 | ret=>intro W0 s kw k Q U I j a w ht hrt h hg hr hQ;exact wpIn_ret (hQ W0.M .ret _ _ _ _ _ _ _ (fun _=>rfl) h hg (.refl _ _) (fun _ _=>rfl) (Nat.le_refl _) (Nat.le_refl _) hr)
 | scope c ih=>
   intro W0 s kw k Q U I j a w ht hrt h hg hr hQ
   refine jA (ih W0 s kw k _ U I j a w ht hrt h hg hr fun M' sg s' kw' U' I' j' a' w' q0 q1 q2 q3 q4 q5 q6 q7=> ?_)
   have:=hQ M' sg s' kw' U' I' j' a' w' q0 q1 q2 q3 q4 q5 q6 q7
   cases sg<;>exact this
 | region id ops draw=>
   intro W0 s kw k Q U I j a w ht hrt h hg hr hQ
   simp only[eW] at h
   split at h
   ·obtain⟨rs,s',kw',h1,g1,l1,h2,h3,h4,h5⟩:=mB (P:=P) (base:=W0.heap.size) hT hS hkeys ht.1.symm ops.toList s kw _ h hg hr.le
    rw[hr.own] at h5
    have fin:∀j' a' w',(k .normal s' kw').holds sp G U I->Rel U n X W0 cx.fbs (full rs s.fs) j' a' w'->Q .normal a' w':=fun j' a' w' hk hr'=>
     hQ W0.M .normal s' kw' U I j' a' w' (fun _=>rfl) hk g1 (.refl _ _) (fun _ _=>rfl) (by rw[l1.lv];exact Nat.le_refl _) l1.vk ⟨by rw[h3];exact hr',by rw[h4.1];exact hr.len,by rw[h4.2];exact hr.own⟩
    cases draw with
    | false=>
      refine wpIn_region ?_
      have hsz:ops.size=rs.length:=by rw[<-Array.length_toList,<-h2,List.length_map]
      rw[hsz,List.range_eq_range']
      exact qW (P:=P) rs [] s.fs (by simpa using h2.symm) (by simpa using h5) (by simpa[full] using hr.rel) (fun j' a' w' hr'=>fin j' a' w' h1 (by simpa using hr'))
    | true=>
      simp only[if_true] at h1
      split at h1
      ·rename_i hord
       obtain⟨g2,g3⟩:=ais (ops:=ops) aoh rs [] [] (by simpa using h2.symm) hord rfl (fun i hi=>by simp at hi)
       refine wpIn_region_any hm ?_
       have hsz:ops.size=rs.length:=by rw[<-Array.length_toList,<-h2,List.length_map]
       refine adp (F0:=s.fs) (L:=rs) h2.symm h5 (fun i o ho e he hb=> ?_) (fun k i x r hk hx hri=>by simpa using g3 k i x r hk (Nat.zero_le _) (by simpa using hx) (by simpa using hri)) (fun j' a' w' hr'=>fin j' a' w' h1 hr') ops.size (Array.replicate ops.size false) j a _ (by simp[hsz]) ?_ ?_ ?_
       ·have hlt:i<rs.length:=by
         rw[<-hsz]
         rcases aX i ops.size with h6 | h6
         ·exact h6
         ·rw[Array.getElem?_eq_none h6] at ho;cases ho
        have hri:rs[i]? =some rs[i]:=thm6 hlt
        have:=aoh i _ rs h2.symm hri
        rw[ho] at this
        cases this
        exact g2 i _ (Nat.zero_le _) (by simp) e he hb
       ·intro i o _ hs
        simp only[fG,Array.getElem?_replicate] at hs
        split at hs<;>simp at hs
       ·exact Nat.le_trans List.countP_le_length (by simp[hsz])
       ·rw[xB rs 0 s.fs (fun m hm=>by
         simp only[fG,Array.getElem?_replicate]
         split<;>simp)]
        exact hr.rel.more (Ext.refl w).drew
      ·exact h1.elim
   ·have hK:∀s' kw' U' I' j' a' w',(k .normal s' kw').holds sp G U' I'->Good sp cx.sm U' kw'->Nx kw kw' U U' I I'->At cx U' n X W0 s' j' a' w'->Q .normal a' w':=
     fun s' kw' U' I' j' a' w' q1 q2 q3 q4=>hQ W0.M .normal s' kw' U' I' j' a' w' (fun _=>rfl) q1 q2 q3.ag q3.inv q3.lv q3.vk q4
    cases draw with
    | false=>
      refine wpIn_region ?_
      rw[List.range_eq_range',<-Array.length_toList]
      exact aig hT hS hkeys ⟨hcl,ht⟩ ops.toList 0 (fun m o hm=>by rw[bt,<-jD];exact hm) s kw _ U I j a w h hg hr hK
    | true=>
      simp only[if_true] at h
      split at h
      ·rename_i hb
       refine wpIn_region_any hm ?_
       refine kn (Q:=fun e a w=>e=.normal/\Q .normal a w) (fun e a w h=>by rw[h.1];exact h.2) _ _ _ _ ?_
       have hnd:((eK 0 ops.toList).map (·.1)).Nodup:=by rw[qa];exact List.nodup_range'
       have gd:∀i,i<ops.size->(Array.replicate ops.size false).getD i false=false:=fun i hi=>by
        rw[fG,Array.getElem?_replicate,if_pos hi];rfl
       refine arI (W0:=W0) (n:=n) (X:=X) hT hS hkeys ⟨hcl,ht⟩ hb (fun c a w h=>by cases h.1) _ _ s kw _ U I _ j a _ h hg ⟨hr.rel.more (Ext.refl w).drew,hr.len,hr.own⟩ (fun p hp=>ajn hp) hnd (by simp) ?_ (fun i hi=>⟨fun _=> ?_,fun _=>gd i hi⟩)
        (fun s' kw' U' I' j' a' w' q1 q2 q3 q4=>⟨rfl,hK s' kw' U' I' j' a' w' q1 q2 q3 q4⟩) ops.size ?_
       ·intro i o ho hs
        have:=gd i (fm.1 ho).1
        exact Bool.noConfusion (hs.symm.trans this)
       ·have:i∈(eK 0 ops.toList).map (·.1):=by rw[qa,List.mem_range'_1];simp;exact hi
        obtain⟨p,hp,e⟩:=List.mem_map.1 this
        exact⟨p,hp,e⟩
       ·exact Nat.le_trans List.countP_le_length (by simp)
      ·exact h.elim
 | seq x y ihx ihy=>
   intro W0 s kw k Q U I j a w ht hrt h hg hr hQ
   simp only[eW] at h
   split at h
   ·refine wpIn_seq (ihx W0 s kw _ _ U I j a w ht hrt h hg hr (fun M' sg s' kw' U' I' j' a' w' hM' h' hg' ha' hI' hl' hv' hr'=> ?_))
    cases sg with
    | normal=>exact ihy {W0 with M:=M'} s' kw' k Q U' I' j' a' w' ht hrt h' hg' hr' (fun M2 sg s2 kw2 U2 I2 j2 a2 w2 hM2 h2 hg2 ha2 hI2 hl2 hv2 hr2=>hQ M2 sg s2 kw2 U2 I2 j2 a2 w2 (fun e=>(hM2 e).trans (hM' e)) h2 hg2 (ha'.trans (ha2.mono hv')) (fun m hm=>(hI2 m (by omega)).trans (hI' m hm)) (by omega) (by omega) hr2)
    | exit id=>exact hQ M' (.exit id) s' kw' U' I' j' a' w' hM' h' hg' ha' hI' hl' hv' hr'
    | ret=>exact hQ M' .ret s' kw' U' I' j' a' w' hM' h' hg' ha' hI' hl' hv' hr'
   ·rename_i id pls _
    split at h
    ·refine wpIn_seq (ihx W0 s kw _ _ U I j a w ht hrt h hg hr (fun M' sg s' kw' U' I' j' a' w' hM' h' hg' ha' hI' hl' hv' hr'=> ?_))
     cases sg with
     | normal=>exact h'.elim
     | exit id=>exact hQ M' (.exit id) s' kw' U' I' j' a' w' hM' h' hg' ha' hI' hl' hv' hr'
     | ret=>exact hQ M' .ret s' kw' U' I' j' a' w' hM' h' hg' ha' hI' hl' hv' hr'
    ·split at h
     ·rename_i hd vks habs
      have hlen:hd.tmps.length=n+X.length/\hd.n=n:=⟨(jh habs).1.trans hr.len,(jh habs).2.trans hr.own⟩
      obtain⟨inv,hpre,hbody⟩:=h
      refine wpIn_seq (ihx W0 s {kw with lv:=kw.lv+1} _ _ U (upd I kw.lv inv) j a w ht hrt hpre ⟨hg.pc,hg.vk,hg.log⟩ hr (fun M' sg s' kw' U' I' j' a' w' hM' h' hg' ha' hI' hl' hv' hr'=> ?_))
      have yp:∀m,m<kw.lv->I' m=I m:=fun m hm=>(hI' m (by show m<kw.lv+1;omega)).trans (nU I inv (by omega))
      cases sg with
      | normal=>
        obtain⟨ds,h1,h2,j3,h3⟩:=acd (U:=U) h' hg'.vk hlen ha' hr'
        rw[hI' kw.lv (Nat.lt_succ_self _),ai] at h1
        obtain⟨U2,g1,g2,g3⟩:=hbody ds h2 h1
        refine ihy {W0 with M:=M'} hd (kw.head vks) k Q U2 I j3 a' w' ht hrt g3 (pS hg g1 (by rw[g2];exact h2)) (h3 U2 g1 g2) (fun M2 sg s2 kw2 U3 I2 j2 a2 w2 hM2 h2 hg2 ha2 hI2 hl2 hv2 hr2=>hQ M2 sg s2 kw2 U3 I2 j2 a2 w2 (fun e=>(hM2 e).trans (hM' e)) h2 hg2 (g1.trans (ha2.mono ?_)) (fun m hm=>hI2 m ?_) ?_ ?_ hr2)
        ·simp[Kw.head]
        ·show m<kw.lv+1;omega
        ·have:kw.lv+1<=kw2.lv:=hl2
         omega
        ·have:(kw.vk++vks).length<=kw2.vk.length:=hv2
         rw[eV] at this
         omega
      | exit id=>exact hQ M' (.exit id) s' kw' U' I' j' a' w' hM' h' hg' ha' yp (by have:kw.lv+1<=kw'.lv:=hl';omega) hv' hr'
      | ret=>exact hQ M' .ret s' kw' U' I' j' a' w' hM' h' hg' ha' yp (by have:kw.lv+1<=kw'.lv:=hl';omega) hv' hr'
     ·exact h.elim
 | cond c x y ihx ihy=>
   intro W0 s kw k Q U I j a w ht hrt h hg hr hQ
   simp only[eW] at h
   split at h
   ·rename_i e he
    have hc:a.eval c=.bool (e.B U):=by
     exact iY (hr.ev he)
    obtain⟨kw1,h1,g1,v1,l1⟩:=ba _ _ _ h hg
    have hQ':∀M' sg s' kw' U' I' j' a' w',(rl=none->M'=W0.M)->(k sg s' kw').holds sp G U' I'->Good sp cx.sm U' kw'->Ag kw1.vk.length U U'->(∀m,m<kw1.lv->I' m=I m)->kw1.lv<=kw'.lv->kw1.vk.length<=kw'.vk.length->At cx U' n X {W0 with M:=M'} s' j' a' w'->Q sg.exit' a' w':=by
     intro M' sg s' kw' U' I' j' a' w' hM' h' hg' ha' hI' hl' hv' hr'
     rw[v1] at ha' hv'
     rw[l1.lv] at hI' hl'
     exact hQ M' sg s' kw' U' I' j' a' w' hM' h' hg' ha' hI' hl' hv' hr'
    refine wpIn_cond_split hc (fun hcb=> ?_) (fun hcb=> ?_)
    ·rw[hcb] at h1
     exact ihx W0 s kw1 k Q U I j a w ht hrt h1 g1 hr hQ'
    ·rw[hcb] at h1
     exact ihy W0 s kw1 k Q U I j a w ht hrt h1 g1 hr hQ'
   ·exact h.elim
 | block id c ih=>
   intro W0 s kw k Q U I j a w ht hrt h hg hr hQ
   refine wpIn_block (ih W0 s kw _ _ U I j a w ht hrt h hg hr (fun M' sg s' kw' U' I' j' a' w' hM' h' hg' ha' hI' hl' hv' hr'=> ?_))
   cases sg with
   | normal=>exact hQ M' .normal s' kw' U' I' j' a' w' hM' h' hg' ha' hI' hl' hv' hr'
   | ret=>exact hQ M' .ret s' kw' U' I' j' a' w' hM' h' hg' ha' hI' hl' hv' hr'
   | exit i=>
     dsimp only at h'
     unfold Sig.exit' Exit.inBlock
     dsimp only
     split at h'
     ·rename_i hi
      rw[if_pos (thm1 hi)]
      exact hQ M' .normal s' kw' U' I' j' a' w' hM' h' hg' ha' hI' hl' hv' hr'
     ·rename_i hi
      rw[if_neg (fun e=>hi (by rw[e];simp))]
      exact hQ M' (.exit i) s' kw' U' I' j' a' w' hM' h' hg' ha' hI' hl' hv' hr'
 | loop c ih=>
   intro W0 s kw k Q U I j a w ht hrt h hg hr hQ
   simp only[eW] at h
   split at h
   ·refine wpIn_loop_rounds fuel ?_
    have key:∀(m:Nat) (M:List Nat) (s:St) (kw2:Kw) (U2:Env) (I2:Nat->List Dt->Prop) (j:J) (a:Act) (w:World),(rl=none->M=W0.M)->(amC (eW cl rl cx fuel c) m s kw2 k).holds sp G U2 I2->Good sp cx.sm U2 kw2->Ag kw.vk.length U U2->(∀m,m<kw.lv->I2 m=I m)->kw.lv<=kw2.lv->kw.vk.length<=kw2.vk.length->At cx U2 n X {W0 with M:=M} s j a w->Code.roundsIn (Fw ro) 0 P c Q m a w:=by
     intro m
     induction m with
     | zero=>intro M s kw2 U2 I2 j a w hM h;exact h.elim
     | succ m ihm=>
       intro M s kw2 U2 I2 j a w hM h hg ha2 hI2 hl2 hv2 hr
       rw[roundsIn_succ]
       simp only[amC] at h
       refine ih {W0 with M:=M} s kw2 _ _ U2 I2 j a w ht hrt h hg hr (fun M' sg s' kw' U' I' j' a' w' hM' h' hg' ha' hI' hl' hv' hr'=> ?_)
       have ha3:Ag kw.vk.length U U':=ha2.trans (ha'.mono hv2)
       have hI3:∀m,m<kw.lv->I' m=I m:=fun m hm=>(hI' m (by omega)).trans (hI2 m hm)
       cases sg with
       | normal=>exact ihm M' s' kw' U' I' j' a' w' (fun e=>(hM' e).trans (hM e)) h' hg' ha3 hI3 (by omega) (by omega) hr'
       | exit id=>exact hQ M' (.exit id) s' kw' U' I' j' a' w' (fun e=>(hM' e).trans (hM e)) h' hg' ha3 hI3 (by omega) (by omega) hr'
       | ret=>exact hQ M' .ret s' kw' U' I' j' a' w' (fun e=>(hM' e).trans (hM e)) h' hg' ha3 hI3 (by omega) (by omega) hr'
    exact key fuel W0.M s kw U I j a w (fun _=>rfl) h hg (.refl _ _) (fun _ _=>rfl) (Nat.le_refl _) (Nat.le_refl _) hr
   ·rename_i id pls _
    split at h
    ·exact h.elim
    ·split at h
     ·rename_i hd vks θ ex habs harg
      split at h
      ·rename_i hok
       have hlen:hd.tmps.length=n+X.length/\hd.n=n:=⟨(jh habs).1.trans hr.len,(jh habs).2.trans hr.own⟩
       obtain⟨inv,μ,hinit,hbody⟩:=h
       obtain⟨d1,d2⟩:=ri hok hg.vk hlen (.refl _ _) hr
       have key:∀(m:Nat) (M:List Nat) (ds:List Dt) (a:Act) (w:World),(rl=none->M=W0.M)->μ ds<m->inv ds->okDs vks ds->ajV cx n X {W0 with M:=M} U kw.vk.length vks hd ds a w->Code.roundsIn (Fw ro) 0 P c Q m a w:=by
        intro m
        induction m with
        | zero=>intro M ds a w _ h;omega
        | succ m ihm=>
          intro M ds a w hM hμ hin hds hat
          rw[roundsIn_succ]
          obtain⟨U2,g1,g2,g3⟩:=hbody ds hds hin
          obtain⟨j2,hj2⟩:=hat
          refine ih {W0 with M:=M} hd (kw.head vks) _ _ U2 _ j2 a w ht hrt g3 (pS hg g1 (by rw[g2];exact hds)) (hj2 U2 g1 g2) (fun M' sg s' kw' U' I' j' a' w' hM' h' hg' ha' hI' hl' hv' hr'=> ?_)
          have hv2:kw.vk.length<=(kw.head vks).vk.length:=by simp[Kw.head]
          have ha3:Ag kw.vk.length U U':=g1.trans (ha'.mono hv2)
          have hI3:∀m,m<kw.lv->I' m=I m:=fun m hm=>(hI' m (by show m<kw.lv+1;omega)).trans (nU I _ (by omega))
          have hl3:kw.lv<=kw'.lv:=by have:kw.lv+1<=kw'.lv:=hl';omega
          have hv3:kw.vk.length<=kw'.vk.length:=by omega
          cases sg with
          | normal=>
            obtain⟨ds',k1,k2,k3⟩:=acd (U:=U) h' hg'.vk hlen ha3 hr'
            rw[hI' kw.lv (Nat.lt_succ_self _),ai] at k1
            exact ihm M' ds' a' w' (fun e=>(hM' e).trans (hM e)) (by omega) k1.1 k2 k3
          | exit id=>exact hQ M' (.exit id) s' kw' U' I' j' a' w' (fun e=>(hM' e).trans (hM e)) h' hg' ha3 hI3 hl3 hv3 hr'
          | ret=>exact hQ M' .ret s' kw' U' I' j' a' w' (fun e=>(hM' e).trans (hM e)) h' hg' ha3 hI3 hl3 hv3 hr'
       exact wpIn_loop_rounds (μ ((argE vks θ).D U)+1) (key _ W0.M _ a w (fun _=>rfl) (Nat.lt_succ_self _) hinit d1 d2)
      ·exact h.elim
     ·exact h.elim
 | rangeFunc f ps assign body=>
   intro W0 s kw k Q U I j a w ht hrt h hg hr hQ
   simp only[eW] at h
   split at h<;>first | exact h.elim | skip
   rename_i rlf g args hargs _ _
   split at h<;>first | exact h.elim | skip
   rename_i hck
   rw[thm0] at hck
   have hgb:g<yB:=by simpa[Nat.blt_eq] using hck.1
   obtain⟨rfl,hcr⟩:=hrl _ rfl
   obtain⟨w0,M0,top0,rf0,hw0,hh0⟩:=W0
   obtain⟨htop,hrf⟩:=hrt rfl
   dsimp only at htop hrf
   subst htop hrf
   obtain⟨x,y,hev,hdens⟩:=acW hr hargs
   refine wpIn_rangeFunc fun fn _=> ?_
   obtain⟨o,ho⟩:∃o:Loop,o={state:=.ready,pending:=none,fn,tmps:=a.tmps,params:=ps,assign,body,defers:=w.heap.size}:=⟨_,rfl⟩
   obtain⟨rf,hrf⟩:∃rf:Rf,rf=⟨ps,assign,body,a.tmps,w.heap.size+1⟩:=⟨_,rfl⟩
   have hl:rf.l=w.heap.size+1:=by rw[hrf]
   have hfs:(St.mk s.tmps (s.heap++[.loop ⟨.ready,none⟩])).fs=s.fs.setl s.heap.length (some ⟨.ready,none⟩):=adE _ _ _
   have hrel:=hr.rel.loopNew (id:=s.heap.length) (iF (Nat.le_refl _)).1 (ar2 hck.2 _) rfl rfl hl (o:=o) ⟨by rw[ho];rfl,by rw[ho];rfl,by rw[ho,hrf],by rw[ho,hrf],by rw[ho,hrf],by rw[ho,hrf]⟩
   rw[<-hfs] at hrel
   obtain⟨j1,hj1⟩:∃j1,j1=({j with g:=⟨fun b=>if b=s.heap.length then some rf.l else j.g.y b,fun k=>if k=rf.l then some (.loop o) else if k=w.heap.size then some (.deferred (some [])) else j.g.z k⟩}:J):=⟨_,rfl⟩
   rw[<-hj1] at hrel
   have hy1:j1.g.y s.heap.length=some (w.heap.size+1):=by rw[hj1];simp[hl]
   have hsub:Sub j j1:=by
    rw[hj1]
    exact⟨fun _ _ h=>h,fun _ _ h=>h,fun _ _ h=>h,fun b k hb=>by
     show(if b=s.heap.length then some rf.l else j.g.y b)=some k
     by_cases e:b=s.heap.length
     ·subst e;rw[hr.rel.gs.nol _ (iF (Nat.le_refl _)).1 (ar2 hck.2 _)] at hb;cases hb
     ·rw[if_neg e];exact hb⟩
   obtain⟨hd1,hd2⟩:=hdens j1 (w.heap.size+1) hsub hy1
   have hlen:X.length=dJ s.tmps.old:=by
    have h1:=hr.len
    have h2:=hr.own
    unfold TM.length at h1
    unfold St.n at h2
    omega
   have key:(callFunc g (x++[Value.func (.yield (w.heap.size+1)) #[] #[]]++y).toArray).run P ((w.alloc (.deferred (some []))).alloc (.loop o))=.ok (.enter g (x++[Value.func (.yield (w.heap.size+1)) #[] #[]]++y).toArray) ((w.alloc (.deferred (some []))).alloc (.loop o))/\
    Calls P g (x++[Value.func (.yield (w.heap.size+1)) #[] #[]]++y).toArray ((w.alloc (.deferred (some []))).alloc (.loop o)) fun e w'=>∃u,e=.returned u/\rangePost (Fw none) 0 P (w.heap.size+1) Q {a with defers:={target:=.collected w.heap.size,args:= #[]}::a.defers} (.returned u) w':=by
    refine(hcr ⟨ps,assign,body,dJ s.tmps.old,s.n,cx.hints,cx.cuts⟩).call g args ⟨s.tmps,s.heap++[.loop ⟨.ready,none⟩]⟩ kw _ (fun u w'=>rangePost (Fw none) 0 P (w.heap.size+1) Q {a with defers:={target:=.collected w.heap.size,args:= #[]}::a.defers} (.returned u) w') U I n X _ j1 _ _ _ hgb h hg ⟨hrel,hr.len,hr.own⟩ ⟨by exact ht.1,rf,[],X,rfl,by rw[hrf],by rw[hrf],by rw[hrf],by rw[hrf];exact hr.rel.size.trans hr.own.symm,by rw[hrf];rfl,hlen⟩ hd1 hd2 (fun v s' kw' U' I' j' w' u h' hg' ha' hI' hl' hv' hvd hat=> ?_)
    split at h'<;>first | exact h'.elim | skip
    rename_i yy hyy
    have hy:s'.fs.lp s.heap.length=some yy:=mZ.2 hyy
    obtain⟨rf',o',e1,e2,e3,e4,e5,e6⟩:=hat.rel.lpZ hy
    cases e1
    rw[hl] at e4
    have fin:∀(hb:yy.st≠.busy),uz (s'.heap.set s.heap.length .gone)=true->∃W4 j2,(Instr.endLoop (w.heap.size+1)).run P w'=.ok o'.pending W4/\At cx U' n X ⟨w0,w.heap.size::M0,true,none,hw0,hh0⟩ ⟨s'.tmps,s'.heap.set s.heap.length .gone⟩ j2 {a with defers:={target:=.collected w.heap.size,args:= #[]}::a.defers} W4:=by
     intro hb hn
     refine⟨_,j'.setz rf.l none,run_endLoop e4 (by rw[e5.st];cases hs:yy.st<;>simp_all [LS.st]),⟨?_,hat.len,hat.own⟩⟩
     rw[show(St.mk s'.tmps (s'.heap.set s.heap.length .gone)).fs=s'.fs.endl s.heap.length from adF hyy,<-hl]
     exact hat.rel.loopEnd hy (fun i yi h=>aix hn i yi h) e3 _
    have out:∀sg:Option Sig,yy.pend=sg->yy.st≠.busy->uz (s'.heap.set s.heap.length .gone)=true->((match sg with | none=>k .normal ⟨s'.tmps,s'.heap.set s.heap.length .gone⟩ kw' | some .normal=>.stuck 207 | some sg=>k sg ⟨s'.tmps,s'.heap.set s.heap.length .gone⟩ kw':Tr).holds sp G U' I')->
     rangePost (Fw none) 0 P (w.heap.size+1) Q {a with defers:={target:=.collected w.heap.size,args:= #[]}::a.defers} (.returned u) w':=by
     intro sg hsg hb hn hh
     obtain⟨W4,j2,hrun,hat2⟩:=fin hb hn
     refine⟨_,_,hrun,?_⟩
     rw[e5.pend,hsg]
     rcases sg with _ | (_ | id | _)
     ·exact hQ _ .normal _ kw' U' I' j2 _ _ (fun e=>by cases e) hh hg' ha' hI' hl' hv' hat2
     ·exact hh.elim
     ·exact wpIn_exit (hQ _ (.exit id) _ kw' U' I' j2 _ _ (fun e=>by cases e) hh hg' ha' hI' hl' hv' hat2)
     ·exact wpIn_ret (hQ _ .ret _ kw' U' I' j2 _ _ (fun e=>by cases e) hh hg' ha' hI' hl' hv' hat2)
    obtain⟨st,pend⟩:=yy
    cases st with
    | busy=>exact h'.elim
    | ready=>
      dsimp only at h'
      split at h'
      ·rename_i hn
       exact out pend rfl (by simp) hn h'
      ·exact h'.elim
    | done=>
      dsimp only at h'
      split at h'
      ·rename_i hn
       exact out pend rfl (by simp) hn h'
      ·exact h'.elim
   obtain⟨hcf,hcall⟩:=key
   refine⟨w.heap.size+1,[{target:=.collected w.heap.size,args:= #[]}],(w.alloc (.deferred (some []))).alloc (.loop o),{target:=.fn (.func g) y.toArray,args:=x.toArray ++ #[.func (.yield (w.heap.size+1)) #[] #[]]},(w.alloc (.deferred (some []))).alloc (.loop o),g,(x++[Value.func (.yield (w.heap.size+1)) #[] #[]]++y).toArray,(w.alloc (.deferred (some []))).alloc (.loop o),?_,?_,fun _ _=>trivial,?_,acx,jf.2 (hcall.mono ?_)⟩
   ·rw[ho];exact run_enterLoop_outer _ _ _ _ _
   ·simp only[resolve,hev,Deferred.ofValue,Sem.run_bind,Sem.run_pure,Result.andThen_ok]
    simp[Act.eval]
   ·have e:((x.toArray ++ #[Value.func (.yield (w.heap.size+1)) #[] #[]])++y.toArray)=(x++[Value.func (.yield (w.heap.size+1)) #[] #[]]++y).toArray:=by simp
    simp only[invoke,e]
    exact hcf
   ·rintro e w' ⟨u,rfl,hk⟩
    exact hk
 | _=>intro W0 s kw k Q U I j a w ht hrt h;exact h.elim
end
def abV (cx:Cx) (s:St):ResultVar->Option (Bool×List C)
 | .tmp t=>match evS s.n s.tmps (.tmp t) with
   | some (.one c)=>some (false,[c])
   | some (.agg cs)=>some (true,cs)
   | _=>none
 | .cell t ty=>match evS s.n s.tmps (.tmp t),az ty cx.ty with
   | some (.one (.ptr b o)),some i=>if i.agg then(rowS s.heap b o i.size).map (true,·) else(ldS s.heap b o).map (false,[·])
   | _,_=>none
def resL (cx:Cx) (s:St):List ResultVar->Option (List (Bool×List C))
 | []=>some []
 | r::l=>match abV cx s r,resL cx s l with
   | some x,some xs=>some (x::xs)
   | _,_=>none
def adM (vk:List VK) (heap:List Ob):CK->C->E->Option E
 | .int k,.int k' e,t=>if bc k k'&&e.rng vk k then some (.cons e t) else none
 | .bool,.bool e,t=>some (.cb e t)
 | .fn g,.fn g',t=>if Nat.beq g g' then some (.cons (.lit 0) t) else none
 | .nf,.nf,t=>some (.cons (.lit 0) t)
 | .sl ks ty,.sl id,t=>match rwS heap id with
   | some r=>if r.own&&(r.kd.fits r.ks&&(cd r.ks ks&&Nat.beq r.ty ty)) then some (.cL r.l t) else none
   | none=>none
 | .sl ks _,.nsl,t=>(match ks with | []=>none | _::_=>some (.cL .ln t))
 | _,_,_=>none
def ng (vk:List VK) (heap:List Ob):List CK->List C->E->Option E
 | [],[],t=>some t
 | k::ks,c::cs,t=>(ng vk heap ks cs t).bind (adM vk heap k c)
 | _,_,_=>none
def asq (heap:List Ob):CK->C->E->Option E
 | .int k,.int k' e,t=>if bc k k' then some (.cons e t) else none
 | .bool,.bool e,t=>some (.cb e t)
 | .fn g,.fn g',t=>if Nat.beq g g' then some (.cons (.lit 0) t) else none
 | .nf,.nf,t=>some (.cons (.lit 0) t)
 | .sl ks ty,.sl id,t=>match rwS heap id with
   | some r=>if r.own&&(r.kd.fits r.ks&&(cd r.ks ks&&Nat.beq r.ty ty)) then some (.cL r.l t) else none
   | none=>none
 | .sl ks _,.nsl,t=>(match ks with | []=>none | _::_=>some (.cL .ln t))
 | _,_,_=>none
theorem amV {vk:List VK} {heap:List Ob} {k:CK} {c:C} {t e:E} (hc:c.rng vk=true) (h:asq heap k c t=some e):adM vk heap k c t=some e:=by
 unfold asq at h
 split at h
 ·rename_i k1 k2 x
  split at h
  ·rename_i h1
   obtain rfl:=aA h1
   have h2:x.rng vk k1=true:=hc
   simp[adM,h1,h2];exact Option.some.inj h
  ·cases h
 all_goals first | exact h | cases h
def acE (heap:List Ob):List CK->List C->E->Option E
 | [],[],t=>some t
 | k::ks,c::cs,t=>(acE heap ks cs t).bind (asq heap k c)
 | _,_,_=>none
theorem yd {vk:List VK} {heap:List Ob}:∀{ks:List CK} {cs:List C} {t e:E},cs.all (C.rng vk)=true->acE heap ks cs t=some e->ng vk heap ks cs t=some e
 | [],[],_,_,_,h=>h
 | k::ks,c::cs,t,e,hr,h=>by
   simp only[List.all_cons,thm0] at hr
   simp only[acE,bS] at h
   obtain⟨e1,h1,h2⟩:=h
   simp only[ng,bS]
   exact⟨e1,yd hr.2 h1,amV hr.1 h2⟩
def adL (vk:List VK) (heap:List Ob) (ks:List CK) (cs:List C) (t:E):Option E:=bif rngs vk cs vk 0 then acE heap ks cs t else none
theorem rx {vk:List VK} {heap:List Ob} {ks:List CK} {cs:List C} {t e:E} (h:adL vk heap ks cs t=some e):ng vk heap ks cs t=some e:=by
 unfold adL at h
 cases hr:rngs vk cs vk 0 with
 | false=>rw[hr] at h;cases h
 | true=>rw[hr] at h;exact yd (rngs_ok cs vk 0 rfl hr) h
def qc (vk:List VK) (heap:List Ob):List Sh->List (Bool×List C)->Option E
 | [],[]=>some .nil
 | .one k::ss,(false,[c])::l=>(qc vk heap ss l).bind (adL vk heap [k] [c])
 | .agg ks::ss,(true,cs)::l=>(qc vk heap ss l).bind (adL vk heap ks cs)
 | _,_=>none
def oidL:List CK->List C->List (Option Nat)
 | .sl _ _::ks,.sl id::cs=>some id::oidL ks cs
 | .sl _ _::ks,_::cs=>none::oidL ks cs
 | _::ks,_::cs=>oidL ks cs
 | _,_=>[]
def oids:List Sh->List (Bool×List C)->List (Option Nat)
 | s::ss,(_,cs)::l=>oidL s.cks cs++oids ss l
 | _,_=>[]
def mX:List (Option Nat)->Bool
 | []=>true
 | none::l=>mX l
 | some a::l=>(l.all fun x=>match x with | some b=>!Nat.beq a b | none=>true)&&mX l
def evAt (heap:List Ob) (id:Nat):Bool:=match rwS heap id with
 | some r=>r.kd.isEv
 | none=>false
def svOf (heap:List Ob) (j:J):Option Nat->SV
 | some id=>if evAt heap id then(j.s id).getD nilSV else {(j.s id).getD nilSV with z:=[]}
 | none=>nilSV
theorem afB (heap:List Ob) (j:J) (id:Nat):(svOf heap j (some id)).v=((j.s id).getD nilSV).v:=by
 cases h:evAt heap id<;>simp only[svOf,h]<;>rfl
def aeB:List (Bool×List C)->V
 | [(true,cs)]=>.agg cs
 | [(false,[c])]=>.one c
 | xs=>.tup xs
def pV (dep:Nat):List (TT×Nat)->Option (TT×Nat)
 | []=>none
 | (t,n)::l=>if Nat.beq (dJ l) dep then some (t,n) else pV dep l
def akN (tm:TM):List Nat->List V->Option TM
 | [],[]=>some tm
 | p::ps,v::vs=>if Nat.blt p tm.n then akN (tm.set p v) ps vs else none
 | _,_=>none
def rndK (cl:ClK) (cx:Cx) (fuel:Nat) (r:RfS) (id:Nat) (args:List V) (s:St) (kw:Kw) (k:V->St->Kw->Tr):Tr:=
 match s.heap[id]?,pV r.dep s.tmps.old with
 | some (.loop y),some (t,n)=>
   if Nat.beq n r.len&&(LS.same y.st .ready&&uz (s.heap.set id .gone)) then
    match akN ⟨t,n,(s.tmps.cur,s.tmps.n)::s.tmps.old⟩ r.ps.toList args with
    | some tm=>eW cl none cx fuel r.assign ⟨tm,s.heap⟩ kw fun sg s1 kw1=>match sg with
      | .normal=>(match s1.heap[id]? with
        | some (.loop y1)=>if LS.same y1.st .ready&&uz (s1.heap.set id .gone) then
         eW cl none cx fuel r.body ⟨s1.tmps,s1.heap.set id (.loop ⟨.busy,y1.pend⟩)⟩ kw1 fun sg s2 kw2=>match s2.heap[id]? with
          | some (.loop _)=>if(Nat.beq s2.tmps.old.length (s.tmps.old.length+1)&&Nat.beq s2.tmps.pop.n s.n)&&uz (s2.heap.set id .gone) then(match sg with
           | .normal=>k (.one (.bool (.tt true))) ⟨s2.tmps.pop,s2.heap.set id (.loop ⟨.ready,none⟩)⟩ kw2
           | sg=>k (.one (.bool (.tt false))) ⟨s2.tmps.pop,s2.heap.set id (.loop ⟨.done,some sg⟩)⟩ kw2) else .stuck 210
          | _=>.stuck 211
          else .stuck 212
        | _=>.stuck 213)
      | _=>.stuck 214
    | none=>.stuck 215
   else .stuck 216
 | _,_=>.stuck 217
def aay (fuel:Nat):Nat->Cx->Option RfS->ClK
 | 0,_,_,_,_,_,_,_=>.stuck 120
 | d+1,cx,ry,g,args,s,kw,k=>if Nat.blt g yB then(match az g cx.fns with
   | none=>.stuck (200000+g)
   | some (fn,hints,cuts)=>match fn.body with
     | some c=>if fn.name== "runtime.NumGoroutine" then .stuck 121 else
       eW (aay fuel d {cx with hints:=hints,cuts:=cuts} ry) none {cx with hints:=hints,cuts:=cuts} fuel c ⟨s.tmps.push args (args.length+(fn.ntmps-args.length)),s.heap⟩ kw fun sg s' kw'=>match sg with
        | .exit _=>.stuck 80
        | _=>match resL cx s' fn.results.toList with
          | some xs=>if Nat.beq s'.tmps.old.length (s.tmps.old.length+1)&&Nat.beq s'.tmps.pop.n s.n then k (aeB xs) ⟨s'.tmps.pop,s'.heap⟩ kw' else .stuck 129
          | none=>.stuck 81
     | none=>.stuck 122)
   else match ry with
    | some r=>rndK (aay fuel d {cx with hints:=r.hints,cuts:=r.cuts} (some r)) {cx with hints:=r.hints,cuts:=r.cuts} fuel r (g-yB) args s kw k
    | none=>.stuck 209
def funK (cx:Cx) (fuel:Nat) (fn:Func) (args:List V) (heap:List Ob) (kw:Kw):Tr:=
 match fn.body with
 | some c=>eW (aay fuel 12 cx none) (some fun r=>aay fuel 12 cx (some r)) cx fuel c ⟨TM.push args (args.length+(fn.ntmps-args.length)) ⟨.leaf (.one .undef),0,[]⟩,heap⟩ kw fun sg s kw=>match sg with
   | .exit _=>.stuck 80
   | _=>match resL cx s fn.results.toList with
     | some xs=>match qc kw.vk s.heap cx.res xs with
       | some e=>if mX (oids cx.res xs) then .leaf e else .stuck 83
       | none=>.stuck 84
     | none=>.stuck 81
 | none=>.stuck 82
section
variable {P:Program} {sp:Spec} {U:Env} {G:Env->E->Prop} {I:Nat->List Dt->Prop} {cx:Cx} {n:Nat} {X:List Value} {W0:Wb}
theorem xH:∀{l:List (Option Nat)},mX l=true->∀(i i':Nat) b,l[i]? =some (some b)->l[i']? =some (some b)->i=i'
 | [],_,i,i',b,h,_=>by simp at h
 | x::l,h,i,i',b,hi,hi'=>by
   have key:mX l=true/\∀b,x=some b->∀i:Nat,l[i]? ≠some (some b):=by
    cases x with
    | none=>exact⟨h,fun b hb=>by cases hb⟩
    | some a=>
      simp only[mX,thm0] at h
      refine⟨h.2,fun b hb i hi=> ?_⟩
      cases hb
      have:=thm7.1 h.1 _ (fq hi)
      simp at this
   cases i with
   | zero=>
     simp at hi
     cases i' with
     | zero=>rfl
     | succ i'=>exact absurd (by simpa using hi') (key.2 b hi i')
   | succ i=>
     cases i' with
     | zero=>
       simp at hi'
       exact absurd (by simpa using hi) (key.2 b hi' i)
     | succ i'=>rw[xH key.1 i i' b (by simpa using hi) (by simpa using hi')]
theorem aml {j:J} {a:Act} {w:World} {s:St} (h:Rel U n X W0 cx.fbs s.fs j a w) {b:Nat}:∀(m o:Nat),RdOk U j w (ldS s.heap) (dk b o m):=by
 intro m o p hp c hc
 rw[<-zY] at hc
 obtain⟨k',v,h1,h2,h3,_⟩:=nG h (b:=p.1) (o:=p.2) (c:=c) hc
 exact⟨k',v,h1,h2,h3⟩
theorem iM {j:J}:∀{cs:List (Bool×List C)} {vs:List Value},bN U j cs=some vs->vs.length=cs.length
 | [],vs,h=>by cases h;rfl
 | c::cs,vs,h=>by
   simp only[bN] at h
   cases hc:den0 U j c with
   | none=>rw[hc] at h;cases h
   | some v=>
     cases hl:bN U j cs with
     | none=>rw[hc,hl] at h;cases h
     | some l=>rw[hc,hl] at h;cases h;simp[iM hl]
def lk (tmps:Array Value):ResultVar->Sem Value
 | .tmp t=>pure (tmps.getD t undef)
 | .cell a t=>do loadVar t (<-asAddr (tmps.getD a undef))
theorem ado (fn:Func) (tmps:Array Value):results fn tmps=(do let vs <-fn.results.mapM (lk tmps);pure (if h:vs.size=1 then vs[0] else .tuple vs)):=by
 unfold results
 congr 2
theorem aie (hT:∀t i,(t,i)∈cx.ty->TIok P t i) {j:J} {a:Act} {w:World} {s:St} (h:At cx U n X W0 s j a w) {r:ResultVar} {x:Bool×List C} (hx:abV cx s r=some x):
  ∃v,den0 U j x=some v/\(lk a.tmps r).run P w=.ok v w:=by
 have tmpv:∀t u,evS s.n s.tmps (.tmp t)=some u->u.den U j=some (a.tmps.getD t undef):=fun t u hu=>h.ev (x:=.tmp t) hu
 cases r with
 | tmp t=>
   simp only[abV] at hx
   split at hx
   ·rename_i c hc
    cases hx
    exact⟨_,tmpv t _ hc,by simp[lk]⟩
   ·rename_i cs hc
    cases hx
    exact⟨_,tmpv t _ hc,by simp[lk]⟩
   ·cases hx
 | cell t ty=>
   simp only[abV] at hx
   split at hx
   ·rename_i b o i hb hi
    obtain⟨kk,hk,hp⟩:=ly (tmpv t _ hb)
    have ht:=hT _ _ (ao hi)
    split at hx
    ·rename_i hagg
     rw[thm4] at hx
     obtain⟨cs,hcs,rfl⟩:=hx
     obtain⟨vs,h1,h2⟩:=de (P:=P) hk i.size o cs (ah6 _ _ _ _ hcs) w (aml h.rel i.size o) ⟨kk,o,none⟩ 0 #[] (fun m=>by rw[be];simp)
     refine⟨.agg vs.toArray,by simp[den0,h1],?_⟩
     simp[lk,hp,asAddr,Sem.run_bind,loadVar,ht.agg,hagg,ht.size,loadCells,h2]
    ·rename_i hagg
     rw[thm4] at hx
     obtain⟨c,hc,rfl⟩:=hx
     rw[<-zY] at hc
     obtain⟨k',v,h1,h2,h3,_⟩:=nG h.rel (b:=b) (o:=o) (c:=c) hc
     rw[hk] at h1;cases h1
     have hagg':i.agg=false:=by simpa using hagg
     refine⟨v,h2,?_⟩
     simp[lk,hp,asAddr,Sem.run_bind,loadVar,ht.agg,hagg',load,Sem.run,h3]
   ·cases hx
theorem aif (hT:∀t i,(t,i)∈cx.ty->TIok P t i) {j:J} {a:Act} {w:World} {s:St} (h:At cx U n X W0 s j a w):∀(l:List ResultVar) (xs:List (Bool×List C)),resL cx s l=some xs->
  ∃vs,bN U j xs=some vs/\vs.length=l.length/\(l.mapM (lk a.tmps)).run P w=.ok vs w
 | [],xs,hx=>by cases hx;exact⟨[],rfl,rfl,by simp⟩
 | r::l,xs,hx=>by
   simp only[resL] at hx
   split at hx
   ·rename_i x ys h1 h2
    cases hx
    obtain⟨v,h3,h4⟩:=aie hT h h1
    obtain⟨vs,h5,h6,h7⟩:=aif hT h l ys h2
    refine⟨v::vs,by simp[bN,h3,h5],by simp[h6],?_⟩
    rw[List.mapM_cons]
    simp only[Sem.run_bind]
    rw[h4]
    simp only[Result.andThen_ok,h7]
    simp
   ·cases hx
theorem qV (hT:∀t i,(t,i)∈cx.ty->TIok P t i) {j:J} {a:Act} {w:World} {s:St} (h:At cx U n X W0 s j a w) {fn:Func} {xs:List (Bool×List C)} (hx:resL cx s fn.results.toList=some xs):
  ∃vs,bN U j xs=some vs/\(results fn a.tmps).run P w=.ok (if h:vs.toArray.size=1 then vs.toArray[0] else .tuple vs.toArray) w:=by
 obtain⟨vs,h1,h2,h3⟩:=aif hT h _ xs hx
 refine⟨vs,h1,?_⟩
 rw[ado,Sem.run_bind,Array.mapM_eq_mapM_toList]
 rw[show(Functor.map List.toArray (List.mapM (lk a.tmps) fn.results.toList):Sem (Array Value))=(do let l <-List.mapM (lk a.tmps) fn.results.toList;pure l.toArray) from rfl]
 simp[Sem.run_bind,h3]
theorem dK {α:Type} {ds:List α} {n:Nat} {x:α} {r:List α} (h:ds.drop n=x::r):ds[n]? =some x/\ds.drop (n+1)=r:=by
 have h1:ds[n]? =some x:=by
  have:=congrArg (·[0]?) h
  simpa using this
 refine⟨h1,?_⟩
 have:=congrArg List.tail h
 simpa using this
structure Res1 (hp:List Ob) (U:Env) (j:J) (w0 w:World) (ks:List CK) (ids:List (Option Nat)) (vs:List Value) (e t:E):Prop where
 len:ids.length=(ks.filter CK.isSl).length
 rng:fQ ks (e.D U)
 at':∀ds n,ds.drop n=e.D U->ds.drop (n+ks.length)=t.D U/\∀(U':Env) v0,eqs U' ds v0 n ks->
  (∀id (j':J),(∀(i:Nat) u,ids[i]? =some u->j'.s (id+i)=some (svOf hp j u))->denL U' j' (aH v0 n id ks)=some vs)/\
  (∀(i:Nat) u r,ids[i]? =some u->(aV v0 n ks)[i]? =some r->RowOk U' w0.heap.size w (svOf hp j u) r)
theorem ast {hp:List Ob} {U:Env} {j:J} {w0 w:World} {t:E}:Res1 hp U j w0 w [] [] [] t t:=
 ⟨rfl,trivial,fun ds n h=>⟨by simpa using h,fun U' v0 he=>⟨fun id j' h=>rfl,fun i u r h=>by simp at h⟩⟩⟩
theorem ajt {ds:List Dt} {n:Nat} {x:Int} (h:ds[n]? =some (.z x)):dI ds n=x:=by simp[dI,h]
theorem amZ {ds:List Dt} {n:Nat} {x:List (List Int)} (h:ds[n]? =some (.l x)):dL ds n=x:=by simp[dL,h]
theorem eQ (b:Bool):(b2i b==1)=b:=by cases b<;>rfl
theorem amU {vk:List VK} (hv:Vk U vk) {s:St} {j:J} {a:Act} {w:World} (h:Rel U n X W0 cx.fbs s.fs j a w) {k:CK} {c:C} {t e:E} (he:adM vk s.heap k c t=some e) {v:Value} (hd:c.den U j=some v) {ks:List CK} {ids:List (Option Nat)} {vs:List Value} {t0:E} (hr:Res1 s.heap U j W0.w w ks ids vs t t0) {cs:List C} (hids:ids=oidL ks cs):
  Res1 s.heap U j W0.w w (k::ks) (oidL (k::ks) (c::cs)) (v::vs) e t0:=by
 subst hids
 have plus:∀m:Nat,m+1+ks.length=m+(k::ks).length:=fun m=>by simp;omega
 unfold adM at he
 split at he
 ·rename_i k k' x
  split at he
  ·rename_i hk
   cases he
   simp only[thm0] at hk
   have:=aA hk.1
   subst this
   cases hd
   refine⟨hr.len,⟨E.rng_ok hv x hk.2,hr.rng⟩,fun ds n' h1=> ?_⟩
   obtain⟨h2,h3⟩:=dK h1
   obtain⟨h4,h5⟩:=hr.at' ds (n'+1) h3
   refine⟨by rw[<-plus];exact h4,fun U' v0 heq=> ?_⟩
   obtain⟨h6,h7⟩:=h5 U' v0 heq.2
   refine⟨fun id j' hj=> ?_,h7⟩
   simp only[aH,denL,C.den,E.I,h6 id j' hj,heq.1,ajt h2]
  ·cases he
 ·rename_i x
  cases he
  cases hd
  refine⟨hr.len,hr.rng,fun ds n' h1=> ?_⟩
  obtain⟨h2,h3⟩:=dK h1
  obtain⟨h4,h5⟩:=hr.at' ds (n'+1) h3
  refine⟨by rw[<-plus];exact h4,fun U' v0 heq=> ?_⟩
  obtain⟨h6,h7⟩:=h5 U' v0 heq.2
  refine⟨fun id j' hj=> ?_,h7⟩
  have h8:U'.b (v0+n')=x.B U:=by rw[heq.1];simp only[dB,ajt h2,eQ]
  simp only[aH,denL,C.den,E.B,h6 id j' hj,h8]
 ·rename_i g g'
  split at he
  ·rename_i hg
   cases he
   have:=thm1 hg
   subst this
   cases hd
   refine⟨hr.len,hr.rng,fun ds n' h1=> ?_⟩
   obtain⟨h2,h3⟩:=dK h1
   obtain⟨h4,h5⟩:=hr.at' ds (n'+1) h3
   refine⟨by rw[<-plus];exact h4,fun U' v0 heq=> ?_⟩
   obtain⟨h6,h7⟩:=h5 U' v0 heq
   refine⟨fun id j' hj=> ?_,h7⟩
   simp only[aH,denL,C.den,h6 id j' hj]
  ·cases he
 ·cases he
  cases hd
  refine⟨hr.len,hr.rng,fun ds n' h1=> ?_⟩
  obtain⟨h2,h3⟩:=dK h1
  obtain⟨h4,h5⟩:=hr.at' ds (n'+1) h3
  refine⟨by rw[<-plus];exact h4,fun U' v0 heq=> ?_⟩
  obtain⟨h6,h7⟩:=h5 U' v0 heq
  refine⟨fun id j' hj=> ?_,h7⟩
  simp only[aH,denL,C.den,h6 id j' hj]
 ·rename_i ks0 ty id0
  split at he
  ·rename_i r hrw
   split at he
   ·rename_i hq
    cases he
    simp only[thm0] at hq
    obtain⟨ho,hsl,hk,ht⟩:=hq
    have hrw0:=hrw
    rw[<-mr] at hrw
    obtain⟨sv,h1,h2⟩:=h.row id0 r (gr hrw)
    simp only[C.den,h1,Option.map_some,bk] at hd
    subst hd
    have e1:=bV hk
    have e2:=thm1 ht
    have e3:=RK.fits_eq hsl
    subst e1 e2
    have hsv:(svOf s.heap j (some id0)).v=sv.v:=by rw[afB,h1];rfl
    refine⟨by simp[oidL,List.filter,CK.isSl,hr.len],⟨h2.rows,hr.rng⟩,fun ds n' h3=> ?_⟩
    obtain⟨h4,h5⟩:=dK h3
    obtain⟨h6,h7⟩:=hr.at' ds (n'+1) h5
    refine⟨by rw[<-plus];exact h6,fun U' v0 heq=> ?_⟩
    obtain⟨h8,h9⟩:=h7 U' v0 heq.2
    refine⟨fun id j' hj=> ?_,fun i u q hi hq'=> ?_⟩
    ·have h10:=hj 0 (some id0) rfl
     rw[Nat.add_zero] at h10
     have h11:=h8 (id+1) j' (fun i u hi=>by
      have:=hj (i+1) u (by simpa[oidL] using hi)
      rwa [show id+(i+1)=id+1+i by omega] at this)
     simp only[aH,denL,C.den,h10,Option.map_some,h11,hsv]
    ·cases i with
     | zero=>
       simp only[oidL,bT,bk] at hi
       simp only[aV,bT,bk] at hq'
       subst hi hq'
       have hR:(E.lw (v0+n')).R U'=r.l.R U:=by
        simp only[E.R]
        rw[heq.1,amZ h4]
       rcases bM r.ks with⟨_,g2⟩ | ⟨_,g2⟩
       ·have hea:evAt s.heap id0=true:=by simp[evAt,hrw0,e3,g2,RK.isEv]
        have hev:svOf s.heap j (some id0)=sv:=by simp[svOf,hea,h1]
        rw[hev]
        exact RowOk.swap (q:=r) rfl rfl ho.symm hR (by rw[e3,g2];trivial) h2
       ·have hea:evAt s.heap id0=false:=by simp[evAt,hrw0,e3,g2,RK.isEv]
        have hev:svOf s.heap j (some id0)={sv with z:=[]}:=by simp[svOf,hea,h1]
        rw[hev]
        have h2:=h2.1 (e3.trans g2)
        refine RowOk.mk_own g2 (by rw[hR];exact h2.n) (by rw[hR];exact h2.rows) h2.pos ?_
        rw[hR]
        exact h2.own ho
     | succ i=>exact h9 i u q (by simpa[oidL] using hi) (by simpa[aV] using hq')
   ·cases he
  ·cases he
 ·rename_i ks0 ty
  split at he
  ·cases he
  ·rename_i k0 ks1
   cases he
   cases hd
   have hrows:RowsIn (k0::ks1) []:=⟨fun r hr=>(by cases hr),by simp⟩
   refine⟨by simp[oidL,List.filter,CK.isSl,hr.len],⟨hrows,hr.rng⟩,fun ds n' h3=> ?_⟩
   obtain⟨h4,h5⟩:=dK h3
   obtain⟨h6,h7⟩:=hr.at' ds (n'+1) h5
   refine⟨by rw[<-plus];exact h6,fun U' v0 heq=> ?_⟩
   obtain⟨h8,h9⟩:=h7 U' v0 heq.2
   refine⟨fun id j' hj=> ?_,fun i u q hi hq'=> ?_⟩
   ·have h10:=hj 0 none rfl
    rw[Nat.add_zero] at h10
    have h11:=h8 (id+1) j' (fun i u hi=>by
     have:=hj (i+1) u (by simpa[oidL] using hi)
     rwa [show id+(i+1)=id+1+i by omega] at this)
    simp only[aH,denL,C.den,h10,Option.map_some,h11]
    rfl
   ·cases i with
    | zero=>
      simp only[oidL,bT,bk] at hi
      simp only[aV,bT,bk] at hq'
      subst hi hq'
      have hR:(E.lw (v0+n')).R U'=[]:=by
       simp only[E.R]
       rw[heq.1,amZ h4]
       rfl
      rcases bM (k0::ks1) with⟨g1,g2⟩ | ⟨_,g2⟩
      ·exact EvOk.row ⟨g1,by rw[hR];rfl,by rw[hR];exact hrows,fun k hk=>absurd hk jV,fun _ p hp=>(by cases hp),[],by rw[hR];rfl,fun _=>by rw[hR];exact World.ownsRow_nil _ _ _ _,by rw[hR];exact RdRow.nil,fun i row x hr=>by rw[hR] at hr;simp at hr⟩ g2
      ·exact RowOk.mk_own g2 (by rw[hR];rfl) (by rw[hR];exact hrows) (by simp) (by rw[hR];exact World.ownsRow_nil _ _ _ _)
    | succ i=>exact h9 i u q (by simpa[oidL] using hi) (by simpa[aV] using hq')
 ·cases he
theorem yc {vk:List VK} (hv:Vk U vk) {s:St} {j:J} {a:Act} {w:World} (h:Rel U n X W0 cx.fbs s.fs j a w):∀{ks:List CK} {cs:List C} {t e:E},ng vk s.heap ks cs t=some e->∀{vs:List Value},denL U j cs=some vs->Res1 s.heap U j W0.w w ks (oidL ks cs) vs e t
 | [],[],t,e,he,vs,hd=>by cases he;cases hd;exact ast
 | k::ks,c::cs,t,e,he,vs,hd=>by
   simp only[ng,bS] at he
   obtain⟨e',h1,h2⟩:=he
   simp only[denL] at hd
   cases hc:c.den U j with
   | none=>rw[hc] at hd;cases hd
   | some v=>
     cases hl:denL U j cs with
     | none=>rw[hc,hl] at hd;cases hd
     | some l=>
       rw[hc,hl] at hd;cases hd
       exact amU hv h h2 hc (yc hv h h1 hl) rfl
theorem acD {vk:List VK} (hv:Vk U vk) {s:St} {j:J} {a:Act} {w:World} (h:Rel U n X W0 cx.fbs s.fs j a w) {ks:List CK} {cs:List C} {t e:E} (he:adL vk s.heap ks cs t=some e) {vs:List Value} (hd:denL U j cs=some vs):Res1 s.heap U j W0.w w ks (oidL ks cs) vs e t:=yc hv h (rx he) hd
structure Res2 (hp:List Ob) (U:Env) (j:J) (w0 w:World) (ss:List Sh) (ids:List (Option Nat)) (vs:List Value) (e:E):Prop where
 len:ids.length=((ss.flatMap (·.cks)).filter CK.isSl).length
 rng:fQ (ss.flatMap (·.cks)) (e.D U)
 at':∀ds n,ds.drop n=e.D U->∀(U':Env) v0,eqs U' ds v0 n (ss.flatMap (·.cks))->
  (∀id (j':J),(∀(i:Nat) u,ids[i]? =some u->j'.s (id+i)=some (svOf hp j u))->bN U' j' (bo v0 n id ss)=some vs)/\
  (∀(i:Nat) u r,ids[i]? =some u->(aV v0 n (ss.flatMap (·.cks)))[i]? =some r->RowOk U' w0.heap.size w (svOf hp j u) r)
theorem gE {U:Env} {ds:List Dt} {v0:Nat}:∀(ks ks':List CK) (n:Nat),eqs U ds v0 n (ks++ks')->eqs U ds v0 n ks/\eqs U ds v0 (n+ks.length) ks'
 | [],ks',n,h=>⟨trivial,h⟩
 | k::ks,ks',n,h=>by
   have plus:n+1+ks.length=n+(k::ks).length:=by simp;omega
   cases k
   case int=>exact⟨⟨h.1,(gE ks ks' (n+1) h.2).1⟩,by rw[<-plus];exact(gE ks ks' (n+1) h.2).2⟩
   case bool=>exact⟨⟨h.1,(gE ks ks' (n+1) h.2).1⟩,by rw[<-plus];exact(gE ks ks' (n+1) h.2).2⟩
   case sl=>exact⟨⟨h.1,(gE ks ks' (n+1) h.2).1⟩,by rw[<-plus];exact(gE ks ks' (n+1) h.2).2⟩
   all_goals exact⟨(gE ks ks' (n+1) h).1,by rw[<-plus];exact(gE ks ks' (n+1) h).2⟩
theorem lm:∀{ks ks':List CK} {ds:List Dt},fQ ks ds->fQ ks' (ds.drop ks.length)->fQ (ks++ks') ds
 | [],ks',ds,_,h=>by simpa using h
 | k::ks,ks',ds,h,h'=>by
   cases ds with
   | nil=>cases k<;>exact h.elim
   | cons d ds=>
     cases k
     case int=>cases d<;>first | exact⟨h.1,lm h.2 h'⟩ | exact h.elim
     case sl=>cases d<;>first | exact⟨h.1,lm h.2 h'⟩ | exact h.elim
     all_goals exact lm (ks:=ks) (ks':=ks') (ds:=ds) h h'
theorem pC {v0:Nat}:∀(ks ks':List CK) (n:Nat),aV v0 n (ks++ks')=aV v0 n ks++aV v0 (n+ks.length) ks'
 | [],ks',n=>rfl
 | k::ks,ks',n=>by
   have plus:n+1+ks.length=n+(k::ks).length:=by simp;omega
   cases k<;>simp only[List.cons_append,aV,pC ks ks' (n+1),plus]
theorem gu {v0:Nat}:∀(ks:List CK) (n:Nat),(aV v0 n ks).length=(ks.filter CK.isSl).length
 | [],n=>rfl
 | k::ks,n=>by cases k<;>simp[aV,List.filter,CK.isSl,gu ks (n+1)]
theorem Res2.cons {hp:List Ob} {j:J} {w0 w:World} {k:Sh} {ss:List Sh} {ids ids':List (Option Nat)} {us vs:List Value} {e t:E} {v:Value} (h1:Res1 hp U j w0 w k.cks ids us e t) (h2:Res2 hp U j w0 w ss ids' vs t)
  (hq:∀v0 n id,∃p,bo v0 n id (k::ss)=p::bo v0 (n+k.cks.length) (id+(k.cks.filter CK.isSl).length) ss/\∀(U':Env) (j':J),denL U' j' (aH v0 n id k.cks)=some us->den0 U' j' p=some v):Res2 hp U j w0 w (k::ss) (ids++ids') (v::vs) e:=by
 refine⟨by rw[List.flatMap_cons,List.filter_append,eV,eV,h1.len,h2.len],?_,fun ds n' hd U' v0 he=> ?_⟩
 ·rw[List.flatMap_cons]
  have h3:=(h1.at' (e.D U) 0 rfl).1
  rw[bt] at h3
  exact lm h1.rng (by rw[h3];exact h2.rng)
 ·rw[List.flatMap_cons] at he
  obtain⟨e1,e2⟩:=gE _ _ _ he
  obtain⟨d1,d2⟩:=h1.at' ds n' hd
  obtain⟨a1,a2⟩:=d2 U' v0 e1
  obtain⟨b1,b2⟩:=h2.at' ds (n'+k.cks.length) d1 U' v0 e2
  refine⟨fun id j' hj=> ?_,fun i u r hi hr=> ?_⟩
  ·obtain⟨p,p1,p2⟩:=hq v0 n' id
   rw[p1]
   have q1:=p2 U' j' (a1 id j' (fun i u hi=>hj i u (by
    rw[thm8 (cf.1 hi).1];exact hi)))
   have q2:=b1 (id+(k.cks.filter CK.isSl).length) j' (fun i u hi=>by
    have:=hj (ids.length+i) u (by rw[thm9 (by omega),Nat.add_sub_cancel_left];exact hi)
    rw[h1.len] at this
    rwa [Nat.add_assoc])
   simp only[bN,q1,q2]
  ·rw[List.flatMap_cons,pC] at hr
   rcases aX i ids.length with hlt | hge
   ·rw[thm8 hlt] at hi
    rw[thm8 (by rw[gu,<-h1.len];exact hlt)] at hr
    exact a2 i u r hi hr
   ·rw[thm9 hge] at hi
    rw[thm9 (by rw[gu,<-h1.len];exact hge),gu,<-h1.len] at hr
    exact b2 _ u r hi hr
theorem uM {vk:List VK} (hv:Vk U vk) {s:St} {j:J} {a:Act} {w:World} (h:Rel U n X W0 cx.fbs s.fs j a w):∀{ss:List Sh} {xs:List (Bool×List C)} {e:E},qc vk s.heap ss xs=some e->∀{vs:List Value},bN U j xs=some vs->Res2 s.heap U j W0.w w ss (oids ss xs) vs e
 | ss,xs,e,he,vs,hd=>by
   unfold qc at he
   split at he
   ·cases he;cases hd
    exact⟨rfl,trivial,fun ds n h U' v0 he=>⟨fun id j' h=>rfl,fun i u r h=>by simp[oids] at h⟩⟩
   ·rename_i k ss c l
    rw[bS] at he
    obtain⟨e',h1,h2⟩:=he
    simp only[bN] at hd
    cases hc:den0 U j (false,[c]) with
    | none=>rw[hc] at hd;cases hd
    | some v=>
      cases hl:bN U j l with
      | none=>rw[hc,hl] at hd;cases hd
      | some us=>
        rw[hc,hl] at hd;cases hd
        have hc':c.den U j=some v:=hc
        refine Res2.cons (k:=.one k) (acD hv h h2 (vs:=[v]) (by simp[denL,hc'])) (uM hv h h1 hl) (fun v0 n id=> ?_)
        refine⟨(false,aH v0 n id [k]),?_,fun U' j' hh=> ?_⟩
        ·simp only[bo,Sh.cks,List.length_singleton]
         congr 2
         cases k<;>simp[List.filter,CK.isSl]
        ·simp only[Sh.cks] at hh
         have:∃c',aH v0 n id [k]=[c']:=by cases k<;>exact⟨_,rfl⟩
         obtain⟨c',hc2⟩:=this
         rw[hc2] at hh ⊢
         simp only[denL] at hh
         simp only[den0]
         cases hx:c'.den U' j' with
         | none=>rw[hx] at hh;cases hh
         | some y=>rw[hx] at hh;simpa using hh
   ·rename_i ks ss cs l
    rw[bS] at he
    obtain⟨e',h1,h2⟩:=he
    simp only[bN] at hd
    cases hc:den0 U j (true,cs) with
    | none=>rw[hc] at hd;cases hd
    | some v=>
      cases hl:bN U j l with
      | none=>rw[hc,hl] at hd;cases hd
      | some us=>
        rw[hc,hl] at hd;cases hd
        simp only[den0,thm4] at hc
        obtain⟨ws,hws,rfl⟩:=hc
        refine Res2.cons (k:=.agg ks) (acD hv h h2 hws) (uM hv h h1 hl) (fun v0 n id=> ?_)
        exact⟨(true,aH v0 n id ks),rfl,fun U' j' hh=>by simp[den0,Sh.cks] at hh ⊢;exact hh⟩
   ·cases he
theorem aid {U:Env} {j:J} {res:List Sh} {tup:Bool} {v0 nid:Nat} {vs:List Value} (ht:Nat.beq res.length 1 = !tup) (hl:vs.length=res.length) (h:bN U j (bo v0 0 nid res)=some vs):
  (fP res tup v0 nid).den U j=some (if h:vs.toArray.size=1 then vs.toArray[0] else .tuple vs.toArray):=by
 cases tup with
 | true=>
   have hne:¬vs.length=1:=fun e=>by rw[hl] at e;simp[e] at ht
   simp[fP,V.den,h,hne]
 | false=>
   have h1:res.length=1:=thm1 (by simpa using ht)
   match res,vs,h1,hl,h with
   | [r],[v],_,_,h=>
     unfold fP
     rw[if_neg (by simp)]
     cases r with
     | one k=>
       have:∃c',aH v0 0 nid [k]=[c']:=by cases k<;>exact⟨_,rfl⟩
       obtain⟨c',hc⟩:=this
       simp only[bo,hc,bN,den0] at h ⊢
       cases hx:c'.den U j with
       | none=>rw[hx] at h;cases h
       | some y=>rw[hx] at h;cases h;simpa[V.den] using hx
     | agg ks=>
       simp only[bo,bN,den0] at h ⊢
       cases hx:denL U j (aH v0 0 nid ks) with
       | none=>rw[hx] at h;cases h
       | some y=>rw[hx] at h;cases h;simp[V.den,hx]
     | ptr ks=>
       simp only[bo,bN,den0,denL,C.den] at h ⊢
       cases h
       simp[V.den,denL,C.den]
theorem Res2.ret {hp:List Ob} {j:J} {w0 w:World} {ss:List Sh} {tup:Bool} {ids:List (Option Nat)} {vs:List Value} {e:E} (h:Res2 hp U j w0 w ss ids vs e) (ht:Nat.beq ss.length 1 = !tup) (hl:vs.length=ss.length) (hx:Ext w0 w)
  (hd:∀(i i':Nat) a b k,ids[i]? =some a->ids[i']? =some b->(svOf hp j a).v.ownBlock=some k->(svOf hp j b).v.ownBlock=some k->i=i') (hz:∀a∈ids,NewZ w0 w (ids.map (svOf hp j)) (svOf hp j a)):RetOk ss tup w0 w (e.D U) (if h:vs.toArray.size=1 then vs.toArray[0] else .tuple vs.toArray):=by
 have at0:=fun U' v0 he=>h.at' (e.D U) 0 rfl U' v0 he
 refine⟨hx,h.rng,ids.map (svOf hp j),by rw[List.length_map,h.len],fun U' v0 nid j' he hs=> ?_,fun U' v0 he i u r hu hr=> ?_,fun i i' u u' k hu hu' hk hk'=> ?_,fun u hu=> ?_⟩
 ·exact aid ht hl ((at0 U' v0 he).1 nid j' (fun i u hi=>hs i _ (by rw[ji,hi];rfl)))
 ·rw[ji,thm4] at hu
  obtain⟨a,ha,rfl⟩:=hu
  exact(at0 U' v0 he).2 i a r ha hr
 ·rw[ji,thm4] at hu hu'
  obtain⟨a,ha,rfl⟩:=hu
  obtain⟨b,hb,rfl⟩:=hu'
  exact hd i i' a b k ha hb hk hk'
 ·obtain⟨a,ha,rfl⟩:=List.mem_map.1 hu
  exact hz a ha
def clz (w:World) (k:Nat):Option Obj:=match w.heap[k]? with
 | some o=>if isCl o then some o else none
 | none=>none
theorem uQ {w:World} {k:Nat} {o:Obj}:clz w k=some o↔w.heap[k]? =some o/\isCl o=true:=by
 unfold clz
 cases h:w.heap[k]? with
 | none=>simp
 | some o'=>
   cases hc:isCl o' with
   | true=>simp[hc];intro e;rw[<-e];exact hc
   | false=>simp[hc];intro e;rw[<-e];exact hc
structure Start (cx:Cx) (U:Env) (heap:List Ob) (j:J) (w:World):Prop where
 row:∀(b:Nat) ob,heap[b]? =some ob->∃r s,ob=.row r/\r.own=false/\j.s b=some s/\RowOk U w.heap.size w s r
 nos:∀b,heap.length<=b->j.s b=none
 nob:∀b,j.b b=none
 gh:j.g=⟨fun _=>none,clz w⟩
 zz:∀b s,j.s b=some s->∀p∈s.z,w.heap[p.1]? =some p.2/\isCl p.2=true
 fb:∀b cs,cx.fbs b=some cs->∃k vs,j.f b=some k/\k<w.heap.size/\denL U j cs=some vs/\∀(o:Nat) v,vs[o]? =some v->gW cs o=true->w.cell? ⟨k,o,none⟩=some v
theorem xF {vk:List VK} {heap:List Ob}:∀{ks:List CK} {cs:List C} {t e:E},ng vk heap ks cs t=some e->∀(i id:Nat),(oidL ks cs)[i]? =some (some id)->∃r,rwS heap id=some r/\r.own=true
 | [],[],t,e,_,i,id,hi=>by simp[oidL] at hi
 | k::ks,c::cs,t,e,he,i,id,hi=>by
   simp only[ng,bS] at he
   obtain⟨e',h1,h2⟩:=he
   have ih:=xF h1
   unfold adM at h2
   split at h2
   ·exact ih i id hi
   ·exact ih i id hi
   ·exact ih i id hi
   ·exact ih i id hi
   ·rename_i id0
    split at h2
    ·rename_i r hr
     split at h2
     ·rename_i hq
      simp only[thm0] at hq
      cases i with
      | zero=>
        simp only[oidL,bT,bk] at hi
        subst hi
        exact⟨r,hr,hq.1⟩
      | succ i=>exact ih i id (by simpa[oidL] using hi)
     ·cases h2
    ·cases h2
   ·cases i with
    | zero=>simp[oidL] at hi
    | succ i=>exact ih i id (by simpa[oidL] using hi)
   ·cases h2
theorem acb {vk:List VK} {heap:List Ob} {ks:List CK} {cs:List C} {t e:E} (he:adL vk heap ks cs t=some e):∀(i id:Nat),(oidL ks cs)[i]? =some (some id)->∃r,rwS heap id=some r/\r.own=true:=xF (rx he)
theorem iZ {vk:List VK} {heap:List Ob}:∀{ss:List Sh} {xs:List (Bool×List C)} {e:E},qc vk heap ss xs=some e->∀(i id:Nat),(oids ss xs)[i]? =some (some id)->∃r,rwS heap id=some r/\r.own=true
 | ss,xs,e,he,i,id,hi=>by
   unfold qc at he
   split at he
   ·simp[oids] at hi
   ·rename_i k ss c l
    rw[bS] at he
    obtain⟨e',h1,h2⟩:=he
    have hi':(oidL [k] [c]++oids ss l)[i]? =some (some id):=hi
    rcases aX i (oidL [k] [c]).length with hlt | hge
    ·rw[thm8 hlt] at hi'
     exact acb h2 i id hi'
    ·rw[thm9 hge] at hi'
     exact iZ h1 _ id hi'
   ·rename_i ks ss cs l
    rw[bS] at he
    obtain⟨e',h1,h2⟩:=he
    have hi':(oidL ks cs++oids ss l)[i]? =some (some id):=hi
    rcases aX i (oidL ks cs).length with hlt | hge
    ·rw[thm8 hlt] at hi'
     exact acb h2 i id hi'
    ·rw[thm9 hge] at hi'
     exact iZ h1 _ id hi'
   ·cases he
theorem qb {vk:List VK} {heap:List Ob}:∀{ss:List Sh} {xs:List (Bool×List C)} {e:E},qc vk heap ss xs=some e->xs.length=ss.length
 | ss,xs,e,he=>by
   unfold qc at he
   split at he
   ·rfl
   ·rw[bS] at he
    obtain⟨e',h1,_⟩:=he
    simp[qb h1]
   ·rw[bS] at he
    obtain⟨e',h1,_⟩:=he
    simp[qb h1]
   ·cases he
theorem dG {P:Program} {f:FuncId} {fn:Func} (hf:P.funcs[f]? =some fn) (hname:(fn.name== "runtime.NumGoroutine")=false) (hb:fn.body.isNone=false) (args:Array Value) (w:World):(callFunc f args).run P w=.ok (.enter f args) w:=by
 have h1:fn.name≠ "runtime.NumGoroutine" :=by simpa using hname
 cases hc:fn.body with
 | none=>rw[hc] at hb;cases hb
 | some c=>simp[callFunc,hf,h1,hc,program,Sem.run_bind,Sem.run]
theorem aeA {j:J} {xs:List (Bool×List C)} {vs:List Value} (h:bN U j xs=some vs):(aeB xs).den U j=some (if h:vs.toArray.size=1 then vs.toArray[0] else .tuple vs.toArray):=by
 have tup:xs.length≠1->(V.tup xs).den U j=some (if h:vs.toArray.size=1 then vs.toArray[0] else .tuple vs.toArray):=fun hn=>by
  have hl:=iM h
  rw[dif_neg (by simpa[hl] using hn)]
  simp[V.den,h]
 match xs,h with
 | [],h=>exact tup (by simp)
 | [(true,cs)],h=>
   simp only[bN] at h
   cases hc:den0 U j (true,cs) with
   | none=>rw[hc] at h;cases h
   | some v=>rw[hc] at h;cases h;exact hc
 | [(false,[c])],h=>
   simp only[bN] at h
   cases hc:den0 U j (false,[c]) with
   | none=>rw[hc] at h;cases h
   | some v=>rw[hc] at h;cases h;exact hc
 | [(false,[])],h=>simp[bN,den0] at h
 | [(false,_::_::_)],h=>simp[bN,den0] at h
 | x::y::l,h=>
   have e:aeB (x::y::l)=.tup (x::y::l):=by rcases x with⟨_ | _,_ | ⟨_,_ | ⟨_,_⟩⟩⟩<;>rfl
   rw[e]
   exact tup (by simp)
theorem an2 {U':Env} {n2:Nat} {X:List Value} {W0:Wb} {s s':St} {j j':J} {a a':Act} {w w':World} (hr:At cx U n X W0 s j a w) (hr':At cx U' n2 (a.tmps.toList++X) {W0 with top:=false} s' j' a' w')
  (hck:(Nat.beq s'.tmps.old.length (s.tmps.old.length+1)&&Nat.beq s'.tmps.pop.n s.n)=true):At cx U' n X W0 ⟨s'.tmps.pop,s'.heap⟩ j' a w':=by
 rw[thm0] at hck
 have hasz:=hr.rel.size
 have hold:s'.tmps.old≠[]:=fun e=>by
  have:=thm1 hck.1
  rw[e] at this
  simp at this
 have hsn:s'.tmps.n=n2:=hr'.own
 have tmp0:∀i:Nat,(St.mk s'.tmps.pop s'.heap).fs.tmp i=s'.fs.tmp (n2+i):=fun i=>by
  simp only[St.fs,fsOf]
  rw[TM.pop_get hold,hsn]
 refine⟨⟨hr.rel.defers,hasz,fun t ht=> ?_,fun i v hi=> ?_,hr'.rel.box,hr'.rel.nob,hr'.rel.inj,hr'.rel.row,hr'.rel.nor,hr'.rel.sep,hr'.rel.rsep,hr'.rel.fb,hr'.rel.ext,⟨hr'.rel.gs.at',hr'.rel.gs.box,hr'.rel.gs.row,hr'.rel.gs.md,hr'.rel.gs.nd,hr'.rel.gs.lp,hr'.rel.gs.nol,hr'.rel.gs.ev,hr'.rel.gs.tb⟩⟩,?_,(thm1 hck.2).trans hr.own⟩
 ·have ht2:t<a.tmps.size:=by rw[hasz];exact ht
  refine⟨a.tmps[t],Array.getElem?_eq_getElem ht2,?_⟩
  rw[tmp0]
  exact hr'.rel.sav t _ (by rw[thm8 (by simpa using ht2),jD];exact Array.getElem?_eq_getElem ht2)
 ·rw[tmp0]
  have:=hr'.rel.sav (n+i) v (by rw[thm9 (by simp[hasz])];simpa[hasz] using hi)
  exact this
 ·have h3:=hr'.len
  simp only[eV,Array.length_toList,hasz] at h3
  have h4:=TM.pop_length hold
  show s'.tmps.pop.length=_
  omega
theorem ab1 {X:List Value} {W0:Wb} {s:St} {j:J} {a:Act} {w:World} (hr:At cx U n X W0 s j a w) {F:Ua} {m:Nat} (at0:∀i:Nat,F.tmp (m+i)=s.fs.tmp i) (i:Nat) (v:Value) (hi:(a.tmps.toList++X)[i]? =some v):F.tmp (m+i)=.top\/(F.tmp (m+i)).den U j=some v:=by
 have hasz:=hr.rel.size
 rw[at0]
 rcases aX i n with h1 | h1
 ·rw[thm8 (by simpa[hasz] using h1)] at hi
  obtain⟨v',h2,h3⟩:=hr.rel.tmp i h1
  rw[jD,h2] at hi
  cases hi
  exact h3
 ·rw[thm9 (by simpa[hasz] using h1)] at hi
  have:=hr.rel.sav _ v hi
  simp only[Array.length_toList,hasz] at this
  rw[show n+(i-n)=i by omega] at this
  exact this
theorem rt {dep:Nat} {t:TT} {m:Nat}:∀{l:List (TT×Nat)},pV dep l=some (t,m)->∃off,off+(m+dep)=dJ l/\∀i,i<m->gL l (off+i)=some (t.get i)
 | [],h=>by cases h
 | (t0,n0)::l,h=>by
   simp only[pV] at h
   split at h
   ·rename_i hb
    cases h
    exact⟨0,by rw[<-thm1 hb];simp[dJ],fun i hi=>by rw[bt];simp[gL,hi]⟩
   ·obtain⟨off,h1,h2⟩:=rt h
    refine⟨n0+off,by simp only[dJ];omega,fun i hi=> ?_⟩
    simp only[gL]
    rw[if_neg (by omega),show n0+off+i-n0=off+i by omega]
    exact h2 i hi
theorem amm {X:List Value} {W0:Wb} {s:St} {j:J} {a:Act} {w:World} {r:RfS} {rf:Rf} {t:TT} {m:Nat} (hr:At cx U n X W0 s j a w) {A B:List Value} (hX:X=A++(rf.tmps.toList++B)) (hB:B.length=r.dep) (hsz:rf.tmps.size=m) (hf:pV r.dep s.tmps.old=some (t,m)):
  At cx U m (a.tmps.toList++X) {W0 with top:=false} ⟨⟨t,m,(s.tmps.cur,s.tmps.n)::s.tmps.old⟩,s.heap⟩ j {tmps:=rf.tmps,defers:=[]} w:=by
 obtain⟨off,h1,h2⟩:=rt hf
 have hn:s.tmps.n=n:=hr.own
 have hlen:X.length=dJ s.tmps.old:=by
  have h3:=hr.len
  unfold TM.length at h3
  omega
 have hA:A.length=off:=by
  have:=congrArg List.length hX
  simp only[eV,Array.length_toList] at this
  omega
 refine⟨⟨rfl,hsz,fun i hi=> ?_,ab1 hr (fun i=> ?_),hr.rel.box,hr.rel.nob,hr.rel.inj,hr.rel.row,hr.rel.nor,hr.rel.sep,hr.rel.rsep,hr.rel.fb,hr.rel.ext,⟨hr.rel.gs.at',hr.rel.gs.box,hr.rel.gs.row,hr.rel.gs.md,hr.rel.gs.nd,hr.rel.gs.lp,hr.rel.gs.nol,hr.rel.gs.ev,hr.rel.gs.tb⟩⟩,?_,rfl⟩
 ·have hi2:i<rf.tmps.size:=by rw[hsz];exact hi
  refine⟨rf.tmps[i],Array.getElem?_eq_getElem hi2,?_⟩
  have h3:=hr.rel.sav (off+i) rf.tmps[i] (by
   have e:rf.tmps.toList.length=m:=by simp[hsz]
   rw[hX,thm9 (by omega),thm8 (by omega)]
   rw[show off+i-A.length=i by omega,jD]
   exact Array.getElem?_eq_getElem hi2)
  have h4:s.fs.tmp (n+(off+i))=t.get i:=by
   simp only[St.fs,fsOf,TM.get?]
   rw[if_neg (by omega),show n+(off+i)-s.tmps.n=off+i by omega,h2 i hi]
   rfl
  have h5:(St.mk ⟨t,m,(s.tmps.cur,s.tmps.n)::s.tmps.old⟩ s.heap).fs.tmp i=t.get i:=by
   simp only[St.fs,fsOf,TM.get?]
   rw[if_pos hi];rfl
  rw[h4] at h3
  rw[h5]
  exact h3
 ·simp only[St.fs,fsOf,TM.get?]
  rw[if_neg (by omega),show m+i-m=i by omega]
  rfl
 ·simp only[TM.length,dJ,eV,Array.length_toList,hr.rel.size]
  rw[hn,<-hlen]
theorem aa4 {X:List Value} {W0:Wb} {heap:List Ob} {j:J} {w:World}:∀{ps:List Nat} {vs:List V} {us:List Value} {tm tm':TM} {a:Act},akN tm ps vs=some tm'->At cx U n X W0 ⟨tm,heap⟩ j a w->us.length=vs.length->(∀(i:Nat) x,vs[i]? =some x->∃u,us[i]? =some u/\x.den U j=some u)->
  At cx U n X W0 ⟨tm',heap⟩ j {a with tmps:=(ps.zip us).foldl (fun t p=>t.setIfInBounds p.1 p.2) a.tmps} w/\ps.length=us.length
 | [],[],[],tm,tm',a,h,hr,_,_=>by cases h;exact⟨hr,rfl⟩
 | p::ps,v::vs,u::us,tm,tm',a,h,hr,hl,hd=>by
   simp only[akN] at h
   split at h
   ·rename_i hp
    have hp:p<tm.n:=by simpa[Nat.blt_eq] using hp
    obtain⟨u',h1,h2⟩:=hd 0 v rfl
    simp only[bT,bk] at h1
    subst h1
    have hn:tm.n=n:=hr.own
    have h3:At cx U n X W0 ⟨tm.set p v,heap⟩ j (a.put (some p) u) w:=by
     refine⟨?_,hr.len,hr.own⟩
     have h4:=hr.rel.put (dst:=some p) h2 (fun d hd=>by cases hd;omega)
     have e:(St.mk (tm.set p v) heap).fs=(St.mk tm heap).fs.put (some p) v:=by
      refine Ua.ext' (fun t=> ?_) (fun _=>rfl) (fun _=>rfl) (fun _=>rfl)
      simp only[Ua.put,St.fs,fsOf,TM.get_set tm v hp]
      by_cases ht:p=t
      ·subst ht;simp
      ·simp[ht]
     rw[e]
     exact h4
    obtain⟨h5,h6⟩:=aa4 h h3 (by simpa using hl) (fun i x hx=>hd (i+1) x (by simpa using hx))
    exact⟨h5,by simp[h6]⟩
   ·cases h
 | [],_::_,_,_,_,_,h,_,_,_=>by cases h
 | _::_,[],_,_,_,_,h,_,_,_=>by cases h
 | [],[],_::_,_,_,_,_,_,hl,_=>by simp at hl
 | _::_,_::_,[],_,_,_,_,_,hl,_=>by simp at hl
theorem adc {x:LS} (h:LS.same x .ready=true):x=.ready:=by cases x<;>first | rfl | cases h
theorem arH (hm:P.follows .mixedOrders=true) (hT:∀t i,(t,i)∈cx.ty->TIok P t i) (hS:∀s∈cx.sm,SmOk P sp s) (hkeys:∀s∈cx.sm,∀s'∈cx.sm,s.key=s'.key->s=s') {fuel:Nat} {cl:ClK} {r:RfS} (hcl:CallOk P sp G cx (some r) cl)
  {id:Nat} {args:List V} {s:St} {kw:Kw} {k:V->St->Kw->Tr} {R:Value->World->Prop} {n:Nat} {X:List Value} {W0:Wb} {j:J} {a:Act} {w:World} {vals:List Value} {l:Nat} (h:(rndK cl cx fuel r id args s kw k).holds sp G U I) (hg:Good sp cx.sm U kw) (hr:At cx U n X W0 s j a w) (ht:Tie sp (some r) X W0)
  (hyl:j.g.y id=some l) (hl:vals.length=args.length) (hd:∀(i:Nat) x,args[i]? =some x->∃u,vals[i]? =some u/\x.den U j=some u)
  (hR:∀v s' kw' U' I' j' w' u,(k v s' kw').holds sp G U' I'->Good sp cx.sm U' kw'->Ag kw.vk.length U U'->(∀m,m<kw.lv->I' m=I m)->kw.lv<=kw'.lv->kw.vk.length<=kw'.vk.length->v.den U' j'=some u->At cx U' n X W0 s' j' a w'->R u w'):
  ∃f tmps assign body,(Instr.yield l vals.toArray).run P w=.ok (.round l f tmps assign body) w/\∀ro,RoundIn (Fw ro) 0 P l f tmps assign body w fun e w'=>∃u,e=.returned u/\R u w':=by
 obtain⟨t0,rf,A,B,t1,t2,t3,t4,t5,t6,t7⟩:=ht
 unfold rndK at h
 split at h<;>first | exact h.elim | skip
 rename_i y t m hy hf
 split at h<;>first | exact h.elim | skip
 rename_i hck
 simp only[thm0] at hck
 have hm0:m=r.len:=thm1 hck.1
 split at h<;>first | exact h.elim | skip
 rename_i tm htm
 have hy0:s.fs.lp id=some y:=mZ.2 hy
 obtain⟨rf',o,e1,e2,e3,e4,e5,e6⟩:=hr.rel.lpZ hy0
 rw[t1] at e1;cases e1
 have hll:l=rf.l:=by rw[hyl] at e2;exact Option.some.inj e2
 subst hll
 have h0:=amm (r:=r) (rf:=rf) hr t6 t7 (t5.trans hm0.symm) hf
 obtain⟨h1,h2⟩:=aa4 htm h0 hl hd
 have hps:vals.toArray.size=o.params.size:=by rw[e5.ps,t2];simpa using h2.symm
 refine⟨o.fn,_,o.assign,o.body,run_yield e4 hps,fun ro=>roundIn_of_wpIn (F:=Fw ro) trivial ?_⟩
 have hfr:(Fw ro).inRound rf.l=Fw (some rf.l):=rfl
 rw[hfr]
 have etm:(o.params.zip vals.toArray).foldl (fun tmps (x:Nat×Value)=>match x with | (t,a)=>tmps.setIfInBounds t a) o.tmps=(r.ps.toList.zip vals).foldl (fun t p=>t.setIfInBounds p.1 p.2) rf.tmps:=by
  rw[e5.ps,e5.tmps,t2,<-Array.foldl_toList,Array.toList_zip]
 rw[etm,e5.assign,t3]
 have tie2:Tie sp (some r) (a.tmps.toList++X) {W0 with top:=false}:=(show Tie sp (some r) X {W0 with top:=false} from⟨t0,rf,A,B,t1,t2,t3,t4,t5,t6,t7⟩).more _
 refine nL (rl:=none) (ry:=some r) hcl (fun f hf=>by cases hf) hm hT hS hkeys fuel r.assign {W0 with top:=false} _ kw _ _ U I j _ w tie2 (fun e=>by cases e) h hg h1 (fun M1 sg s1 kw1 U1 I1 j1 a1 w1 hM1 h' hg' ha' hI' hl' hv' hr'=> ?_)
 have hM1:M1=W0.M:=hM1 rfl
 subst hM1
 cases sg with
 | exit id=>exact h'.elim
 | ret=>exact h'.elim
 | normal=>
   dsimp only at h'
   split at h'<;>first | exact h'.elim | skip
   rename_i y1 hy1
   split at h'<;>first | exact h'.elim | skip
   rename_i hck1
   rw[thm0] at hck1
   have hlp1:s1.fs.lp id=some y1:=mZ.2 hy1
   obtain⟨rf1,o1,f1,f2,f3,f4,f5,f6⟩:=hr'.rel.lpZ hlp1
   have:rf1=rf:=by
    have h8:W0.rf=some rf1:=f1
    rw[t1] at h8;exact(Option.some.inj h8).symm
   subst this
   refine⟨_,run_beginRound f4 (by rw[f5.st,adc hck1.1];rfl),?_⟩
   have h9:=hr'.rel.loopSet hlp1 (fun i yi hi=>aix hck1.2 i yi hi) f1 f2 f3 (y':=⟨.busy,y1.pend⟩) (o':={o1 with state:=.busy}) ⟨rfl,f5.pend,f5.ps,f5.assign,f5.body,f5.tmps⟩
   rw[e5.body,t4]
   have hat1:At cx U1 m (a.tmps.toList++X) {W0 with top:=false} ⟨s1.tmps,s1.heap.set id (.loop ⟨.busy,y1.pend⟩)⟩ (j1.setz rf1.l (some (.loop {o1 with state:=.busy}))) a1 (w1.putObj rf1.l (.loop {o1 with state:=.busy})):=by
    refine⟨?_,hr'.len,hr'.own⟩
    rw[show(St.mk s1.tmps (s1.heap.set id (.loop ⟨.busy,y1.pend⟩))).fs=s1.fs.setl id (some ⟨.busy,y1.pend⟩) from rq hy1 _]
    exact h9
   refine nL (rl:=none) (ry:=some r) hcl (fun f hf=>by cases hf) hm hT hS hkeys fuel r.body {W0 with top:=false} _ kw1 _ _ U1 I1 _ _ _ tie2 (fun e=>by cases e) h' hg' hat1 (fun M2 sg s2 kw2 U2 I2 j2 a2 w2 hM2 h'' hg'' ha'' hI'' hl'' hv'' hr''=> ?_)
   have hM2:M2=W0.M:=hM2 rfl
   subst hM2
   split at h''<;>first | exact h''.elim | skip
   rename_i y2 hy2
   split at h''<;>first | exact h''.elim | skip
   rename_i hck2
   rw[thm0] at hck2
   have hat2:=an2 hr hr'' hck2.1
   have hlp2:(St.mk s2.tmps.pop s2.heap).fs.lp id=some y2:=mZ.2 hy2
   obtain⟨rf2,o2,g1,g2,g3,g4,g5,g6⟩:=hat2.rel.lpZ hlp2
   have:rf2=rf1:=by rw[t1] at g1;exact(Option.some.inj g1).symm
   subst this
   have ag:Ag kw.vk.length U U2:=ha'.trans (ha''.mono hv')
   have hI3:∀m,m<kw.lv->I2 m=I m:=fun m hm=>(hI'' m (by omega)).trans (hI' m hm)
   have fin:∀(jump:Option Sig) (b:Bool),b=jump.isNone->(∀sg,jump=some sg->True)->(k (.one (.bool (.tt b))) ⟨s2.tmps.pop,s2.heap.set id (.loop ⟨if b then .ready else .done,jump⟩)⟩ kw2).holds sp G U2 I2->
    ∃v w',(Instr.endRound rf2.l (jump.map Sig.code)).run P w2=.ok v w'/\∃u,Ending.returned v=.returned u/\R u w':=by
    intro jump b hb _ hh
    have hbn:(jump.map Sig.code).isNone=b:=by rw[hb];cases jump<;>rfl
    refine⟨_,_,run_endRound (jump.map Sig.code) g4,_,rfl,?_⟩
    rw[hbn]
    have g9:=hat2.rel.loopSet hlp2 (fun i yi hi=>aix hck2.2 i yi hi) g1 g2 g3 (y':=⟨if b then .ready else .done,jump⟩) (o':={o2 with state:=if b then .ready else .done,pending:=jump.map Sig.code}) ⟨by cases b<;>rfl,rfl,g5.ps,g5.assign,g5.body,g5.tmps⟩
    refine hR _ _ kw2 U2 I2 (j2.setz rf2.l (some (.loop {o2 with state:=if b then .ready else .done,pending:=jump.map Sig.code}))) _ (.bool b) hh hg'' ag hI3 (by omega) (by omega) (by simp[V.den,C.den,E.B]) ⟨?_,hat2.len,hat2.own⟩
    rw[show(St.mk s2.tmps.pop (s2.heap.set id (.loop ⟨if b then .ready else .done,jump⟩))).fs=(St.mk s2.tmps.pop s2.heap).fs.setl id (some ⟨if b then .ready else .done,jump⟩) from rq hy2 _]
    exact g9
   cases sg with
   | normal=>exact fin none true rfl (fun _ _=>trivial) h''
   | exit id=>exact fin (some (.exit id)) false rfl (fun _ _=>trivial) h''
   | ret=>exact fin (some .ret) false rfl (fun _ _=>trivial) h''
theorem nM (hm:P.follows .mixedOrders=true) {fuel:Nat}:∀(d:Nat) (cx:Cx) (ry:Option RfS),(∀t i,(t,i)∈cx.ty->TIok P t i)->(∀s∈cx.sm,SmOk P sp s)->(∀s∈cx.sm,∀s'∈cx.sm,s.key=s'.key->s=s')->(∀p∈cx.fns,P.funcs[p.1]? =some p.2.1)->CallOk P sp G cx ry (aay fuel d cx ry)
 | 0,cx,ry,_,_,_,_=>⟨fun _ _ _ _ _ _ _ _ _ _ _ _ _ _ _ _ h=>h.elim,fun _ _ _ _ _ _ _ _ _ _ _ _ _ _ _ _ h=>h.elim⟩
 | d+1,cx,ry,hT,hS,hkeys,hF=>by
   refine⟨fun g args s kw k R U I n X W0 j a w vals hgb h hg hr ht hl hd hR=> ?_,fun id args s kw k R U I n X W0 j a w vals l h hg hr ht hyl hl hd hR=> ?_⟩
   ·have hbl:Nat.blt g yB=true:=by simpa[Nat.blt_eq] using hgb
    simp only[aay,hbl,if_true] at h
    split at h
    ·exact h.elim
    ·rename_i fn hints cuts hlook
     have hf:P.funcs[g]? =some fn:=hF _ (ao hlook)
     split at h
     ·rename_i c hc
      split at h
      ·exact h.elim
      ·rename_i hname
       refine⟨dG hf (by simpa using hname) (by rw[hc];rfl) _ w,?_⟩
       refine uR hf hc ?_
       have hsz:vals.toArray.size=args.length:=by simpa using hl
       have hasz:=hr.rel.size
       have hle:args.length<=args.length+(fn.ntmps-args.length):=Nat.le_add_right _ _
       have at0:∀i:Nat,(s.tmps.push args (args.length+(fn.ntmps-args.length))).get? (args.length+(fn.ntmps-args.length)+i)=s.tmps.get? i:=fun i=>TM.push_old_get s.tmps hle i
       refine nL (rl:=none) (cx:={cx with hints:=hints,cuts:=cuts}) (n:=args.length+(fn.ntmps-args.length)) (X:=a.tmps.toList++X) (nM hm d _ ry hT hS hkeys hF) (fun f hf=>by cases hf) hm hT hS hkeys fuel c {W0 with top:=false} _ kw _ _ U I j _ w ht (fun e=>by cases e) h hg
        ⟨⟨rfl,by simp[hl],?_,?_,hr.rel.box,hr.rel.nob,hr.rel.inj,hr.rel.row,hr.rel.nor,hr.rel.sep,hr.rel.rsep,hr.rel.fb,hr.rel.ext,⟨hr.rel.gs.at',hr.rel.gs.box,hr.rel.gs.row,hr.rel.gs.md,hr.rel.gs.nd,hr.rel.gs.lp,hr.rel.gs.nol,hr.rel.gs.ev,hr.rel.gs.tb⟩⟩,?_,TM.push_n _ _ _⟩ ?_
       ·intro t ht
        rcases aX t args.length with h1 | h1
        ·obtain⟨u,hu,hdu⟩:=hd t args[t] (thm6 h1)
         refine⟨u,?_,.inr ?_⟩
         ·rw[Array.getElem?_append_left (by simpa[hl] using h1)]
          simpa using hu
         ·simp only[St.fs,fsOf]
          rw[TM.push_arg s.tmps hle h1,thm6 h1]
          exact hdu
        ·refine⟨Go.undef,?_,.inr ?_⟩
         ·rw[Array.getElem?_append_right (by simpa[hl] using h1)]
          rw[Array.getElem?_replicate,if_pos (by rw[hsz];omega)]
         ·simp only[St.fs,fsOf]
          rw[TM.push_undef s.tmps hle h1 ht]
          rfl
       ·exact ab1 hr (fun i=>by simp only[St.fs,fsOf,at0])
       ·simp only[TM.push_length,hr.len,eV,Array.length_toList,hasz]
       ·intro M' sg s' kw' U' I' j' a' w' hM' h' hg' ha' hI' hl' hv' hr'
        have hM':M'=W0.M:=hM' rfl
        subst hM'
        have hr':At cx U' (args.length+(fn.ntmps-args.length)) (a.tmps.toList++X) {W0 with top:=false} s' j' a' w':=⟨hr'.rel,hr'.len,hr'.own⟩
        have fin:(match resL cx s' fn.results.toList with
         | some xs=>if Nat.beq s'.tmps.old.length (s.tmps.old.length+1)&&Nat.beq s'.tmps.pop.n s.n then k (aeB xs) ⟨s'.tmps.pop,s'.heap⟩ kw' else .stuck 129
         | none=>.stuck 81:Tr).holds sp G U' I'->a'.defers=[]/\∃v,(results fn a'.tmps).run P w'=.ok v w'/\∃u,Ending.returned v=.returned u/\R u w':=by
         intro h'
         split at h'
         ·rename_i xs hxs
          split at h'<;>first | exact h'.elim | skip
          rename_i hck
          obtain⟨vs,h1,h2⟩:=qV hT hr' hxs
          exact⟨hr'.rel.defers,_,h2,_,rfl,hR (aeB xs) _ kw' U' I' j' w' _ h' hg' ha' hI' hl' hv' (aeA h1) (an2 hr hr' hck)⟩
         ·exact h'.elim
        cases sg with
        | exit id=>exact h'.elim
        | normal=>exact fin h'
        | ret=>exact fin h'
     ·exact h.elim
   ·have hbl:Nat.blt (yB+id) yB=false:=by
     cases hb:Nat.blt (yB+id) yB with
     | false=>rfl
     | true=>
       have:yB+id<yB:=by simpa[Nat.blt_eq] using hb
       omega
    simp only[aay,hbl] at h
    split at h
    ·cases ‹false=true›
    ·split at h
     ·rename_i r
      rw[show yB+id-yB=id by omega] at h
      obtain⟨f,tm,as,bd,h1,h2⟩:=arH (cx:={cx with hints:=r.hints,cuts:=r.cuts}) hm hT hS hkeys (nM hm d {cx with hints:=r.hints,cuts:=r.cuts} (some r) hT hS hkeys hF) h hg ⟨hr.rel,hr.len,hr.own⟩ ht hyl hl hd (R:=R) (fun v s' kw' U' I' j' w' u q1 q2 q3 q4 q5 q6 q7 q8=>hR v s' kw' U' I' j' w' u q1 q2 q3 q4 q5 q6 q7 ⟨q8.rel,q8.len,q8.own⟩)
      exact⟨f,tm,as,bd,h1,h2⟩
     ·exact h.elim
theorem asl (hF:∀p∈cx.fns,P.funcs[p.1]? =some p.2.1) (hm:P.follows .mixedOrders=true) (hT:∀t i,(t,i)∈cx.ty->TIok P t i) (hS:∀s∈cx.sm,SmOk P sp s) (hkeys:∀s∈cx.sm,∀s'∈cx.sm,s.key=s'.key->s=s') {f:Nat} {fn:Func} (hf:P.funcs[f]? =some fn)
  {fuel:Nat} {args:List V} {heap:List Ob} {kw:Kw} {vals:List Value} {j:J} (hargs:∀(i:Nat) x,args[i]? =some x->∃u,vals[i]? =some u/\x.den U j=some u) (hlen:vals.length=args.length) {tup:Bool} (ht:Nat.beq cx.res.length 1 = !tup) {X:List Dt}
  (h:(funK cx fuel fn args heap kw).holds sp (fun U e=>e.D U=X) U I) (hg:Good sp cx.sm U kw) (w:World) (hst:Start cx U heap j w) (hhw:sp.hw w):Calls P f vals.toArray w fun e w'=>∃v,e=.returned v/\RetOk cx.res tup w w' X v:=by
 unfold funK at h
 split at h
 ·rename_i c hc
  refine jf.1 (callsIn_of_wp_marks (F:=Fw none) (n:=0) hf hc trivial ?_)
  have hsz:vals.toArray.size=args.length:=by simpa using hlen
  have gQ:∀b,(rowH heap b=none↔heap.length<=b)/\∀r,rowH heap b=some (some r)->heap[b]? =some (.row r):=by
   intro b
   refine⟨⟨fun hb=> ?_,fun hb=>by simp[rowH,bI hb]⟩,fun r hb=> ?_⟩
   ·rcases aX b heap.length with hlt | hge
    ·obtain⟨r,s,e,_⟩:=hst.row b _ (thm6 hlt)
     simp[rowH,thm6 hlt,e] at hb
    ·exact hge
   ·unfold rowH at hb
    split at hb
    ·rename_i r' hr;cases hb;exact hr
    ·cases hb
    ·cases hb
  have hown:∀b r,rowH heap b=some (some r)->r.own=false:=fun b r hb=>by
   obtain⟨r',s,e,h1,_⟩:=hst.row b _ ((gQ b).2 r hb)
   cases e;exact h1
  have nobox:∀b,boxH heap b=none:=fun b=>by
   unfold boxH
   split
   ·rename_i cs ty hb
    obtain⟨r,s,e,_⟩:=hst.row b _ hb
    cases e
   ·rfl
  refine nL (P:=P) (n:=args.length+(fn.ntmps-args.length)) (X:=[]) (nM hm 12 cx none hT hS hkeys hF) (fun f hf=>by cases hf;exact⟨rfl,fun r=>nM hm 12 cx (some r) hT hS hkeys hF⟩) hm hT hS hkeys fuel c ⟨w,[],true,none,sp.hw,fun w' hx=>sp.hx w w' hx hhw⟩ _ kw _ _ U I j _ w ⟨rfl,trivial⟩ (fun _=>⟨rfl,rfl⟩) h hg ⟨⟨rfl,by simp[hlen],?_,fun i v hi=>(by simp at hi),fun b cs ty hb=> ?_,fun b _=>hst.nob b,fun b b' k hb=> ?_,fun b r hb=> ?_,fun b hb=>hst.nos b ((gQ b).1.1 hb),fun b b' k r s hb=> ?_,fun b b' r r' s s' k hb ho=> ?_,hst.fb,Ext.refl w,⟨fun k o hz=>(by rw[hst.gh] at hz;have:=uQ.1 hz;exact⟨this.1,fun e=>by rw[this.2] at e;cases e⟩),fun k o b hz e=>(by rw[hst.nob] at e;cases e),fun k o id r s hz hF hs hc e=>(by rw[hst.gh] at hz;have h1:=(uQ.1 hz).2;have h2:r.own=false:=hown id r hF;exact hc.elim (fun hc=>Bool.noConfusion (h2.symm.trans hc)) (fun hc=>Bool.noConfusion (h1.symm.trans hc))),fun D hD=>(by cases hD),List.nodup_nil,fun id y hy=> ?_,fun id _ _=>(by rw[hst.gh]),fun id r s hF hs=> ?_,fun id r s hF hk hs=> ?_⟩⟩,(by rw[TM.push_length];rfl),TM.push_n _ _ _⟩ ?_
  ·intro t ht
   rcases aX t args.length with h1 | h1
   ·obtain⟨u,hu,hd⟩:=hargs t args[t] (thm6 h1)
    refine⟨u,?_,.inr ?_⟩
    ·rw[Array.getElem?_append_left (by simpa[hlen] using h1)]
     simpa using hu
    ·simp only[St.fs,fsOf]
     rw[TM.push_arg _ (Nat.le_add_right _ _) h1,thm6 h1]
     exact hd
   ·refine⟨Go.undef,?_,.inr ?_⟩
    ·rw[Array.getElem?_append_right (by simpa[hlen] using h1)]
     rw[Array.getElem?_replicate,if_pos (by rw[hsz];omega)]
    ·simp only[St.fs,fsOf]
     rw[TM.push_undef _ (Nat.le_add_right _ _) h1 ht]
     rfl
  ·rw[show(St.mk (TM.push args (args.length+(fn.ntmps-args.length)) ⟨.leaf (.one .undef),0,[]⟩) heap).fs.box b=boxH heap b from rfl,nobox] at hb
   cases hb
  ·rw[hst.nob] at hb;cases hb
  ·obtain⟨r',s,e,h1,h2,h3⟩:=hst.row b _ ((gQ b).2 r hb)
   cases e
   exact⟨s,h2,h3⟩
  ·rw[hst.nob] at hb;cases hb
  ·rw[hown b r hb] at ho;cases ho
  ·obtain⟨r,s,e,_⟩:=hst.row id _ (mZ.1 hy)
   cases e
  ·exact fun p hp=>by rw[hst.gh];have h1:=hst.zz id s hs p hp;exact⟨uQ.2 h1,h1.2⟩
  ·obtain⟨r',s',e,h1,h2,h3⟩:=hst.row id _ ((gQ id).2 r hF)
   cases e
   have:=(h3.2.1 (by rw[hk];rfl)).own
   rw[h1] at this;cases this
  ·intro M' sg s' kw' U' I' j1' a1' w1' _ h' hg' ha' hI' hl' hv' hr1
   have leave:(∀j' w',At cx U' (args.length+(fn.ntmps-args.length)) [] ⟨w,[],true,none,sp.hw,fun w' hx=>sp.hx w w' hx hhw⟩ s' j' {a1' with defers:=[]} w'->∃v,(results fn a1'.tmps).run P w'=.ok v w'/\∃u,Ending.returned v=.returned u/\RetOk cx.res tup w w' X u)->LeavesInM (Fw none) 0 P fn a1'.tmps (fun e w'=>∃v,e=.returned v/\RetOk cx.res tup w w' X v) a1'.defers .returning w1':=by
    intro hk
    rw[hr1.rel.defers]
    refine Rel.unmark M' rfl hr1.rel (fun j' w' h2=> ?_)
    obtain⟨v,k1,k2⟩:=hk j' w' ⟨h2,hr1.len,hr1.own⟩
    exact⟨v,k1,k2⟩
   have fin:∀j' w',At cx U' (args.length+(fn.ntmps-args.length)) [] ⟨w,[],true,none,sp.hw,fun w' hx=>sp.hx w w' hx hhw⟩ s' j' {a1' with defers:=[]} w'->∀xs,resL cx s' fn.results.toList=some xs->∀e,qc kw'.vk s'.heap cx.res xs=some e->mX (oids cx.res xs)=true->e.D U'=X->∃v,(results fn a1'.tmps).run P w'=.ok v w'/\∃u,Ending.returned v=.returned u/\RetOk cx.res tup w w' X u:=by
    intro j' w' hr' xs hxs e he hn hX
    obtain⟨vs,h1,h2⟩:=qV hT hr' hxs
    have h3:=uM hg'.vk hr'.rel he h1
    have h4:=h3.ret (tup:=tup) ht (by rw[iM h1,qb he]) hr'.rel.ext (fun i i' a b k hi hi' hk hk'=> ?_) (fun a ha p hp=> ?_)
    ·rw[hX] at h4
     exact⟨_,h2,_,rfl,h4⟩
    ·cases a with
     | none=>cases hk
     | some a=>
       cases b with
       | none=>cases hk'
       | some b=>
         obtain⟨r,hr1,hr2⟩:=iZ he i a hi
         obtain⟨r',hr3,hr4⟩:=iZ he i' b hi'
         rw[<-mr] at hr1 hr3
         have q1:=gr hr1
         have q2:=gr hr3
         obtain⟨s1,t1,_⟩:=hr'.rel.row a r q1
         obtain⟨s2,t2,_⟩:=hr'.rel.row b r' q2
         simp only[afB,t1,t2,Option.getD_some] at hk hk'
         have:=hr'.rel.rsep a b r r' s1 s2 k q1 hr2 q2 t1 t2 (lN hr2 hk) (lN hr4 hk')
         subst this
         exact xH hn i i' a hi hi'
    ·cases a with
     | none=>cases hp
     | some a=>
       obtain⟨i,hi⟩:=List.getElem?_of_mem ha
       obtain⟨r,hr1,hr2⟩:=iZ he i a hi
       have hr0:=hr1
       rw[<-mr] at hr1
       have q1:=gr hr1
       obtain⟨s1,t1,t3⟩:=hr'.rel.row a r q1
       cases hev:evAt s'.heap a with
       | false=>simp[svOf,hev] at hp
       | true=>
         have hs1:svOf s'.heap j' (some a)=s1:=by simp[svOf,hev,t1]
         rw[hs1] at hp
         have hkd:r.kd=.ev:=by
          unfold evAt at hev
          rw[hr0] at hev
          exact RK.isEv_eq hev
         obtain⟨z1,z2⟩:=hr'.rel.gs.ev a r s1 q1 t1 p hp
         refine⟨(hr'.rel.gs.at' _ _ z1).1,z2,(t3.2.2 hkd).zb hr2 p hp,fun u hu e=> ?_⟩
         obtain⟨b,hb,rfl⟩:=List.mem_map.1 hu
         cases b with
         | none=>cases e
         | some b=>
           obtain⟨i',hi'⟩:=List.getElem?_of_mem hb
           obtain⟨r',hr3,hr4⟩:=iZ he i' b hi'
           rw[<-mr] at hr3
           have q2:=gr hr3
           obtain⟨s2,t2,_⟩:=hr'.rel.row b r' q2
           simp only[afB,t2,Option.getD_some] at e
           exact hr'.rel.gs.row _ _ b r' s2 z1 q2 t2 (.inl hr4) (lN hr4 e)
   have fin':(match resL cx s' fn.results.toList with
     | some xs=>match qc kw'.vk s'.heap cx.res xs with
       | some e=>if mX (oids cx.res xs) then .leaf e else .stuck 83
       | none=>.stuck 84
     | none=>.stuck 81:Tr).holds sp (fun U e=>e.D U=X) U' I'->LeavesInM (Fw none) 0 P fn a1'.tmps (fun e w'=>∃v,e=.returned v/\RetOk cx.res tup w w' X v) a1'.defers .returning w1':=by
    intro h'
    split at h'
    ·rename_i xs hxs
     split at h'
     ·rename_i e he
      split at h'
      ·rename_i hn;exact leave (fun j' w' hr'=>fin j' w' hr' xs hxs e he hn h')
      ·exact h'.elim
     ·exact h'.elim
    ·exact h'.elim
   cases sg with
   | exit id=>exact h'.elim
   | normal=>exact fin' h'
   | ret=>exact fin' h'
 ·exact h.elim
end
def Tr.sc:Nat->Tr->Bool
 | _,.leaf _ | _,.panic | _,.stuck _ | _,.at _ _=>true
 | n,.br e t f=>e.sc n&&(t.sc n&&f.sc n)
 | n,.call _ ks args v0 t=>args.sc n&&(Nat.beq v0 n&&t.sc (n+ks.length))
 | n,.next _ args=>args.sc n
 | n,.loop _ v0 vks init body=>init.sc n&&(Nat.beq v0 n&&body.sc (n+vks.length))
 | n,.cut _ v0 vks pre body=>Nat.beq v0 n&&(pre.sc n&&body.sc (n+vks.length))
 | n,.any v0 _ t=>Nat.beq v0 n&&t.sc (n+1)
 | n,.both v0 a b=>Nat.beq v0 n&&(a.sc n&&b.sc n)
def Tr.asks (sp:Spec) (G:Env->E->Prop):Env->(Nat->List Dt->Prop)->Tr->Prop
 | U,_,.leaf e=>G U e
 | _,_,.panic=>False
 | _,_,.stuck _=>False
 | _,_,.at _ _=>False
 | U,I,.br e t f=>(e.B U=true->t.asks sp G U I)/\(e.B U=false->f.asks sp G U I)
 | U,I,.call key ks args v0 t=>sp.pre key (args.D U)/\(eqs U (sp.F key (args.D U)) v0 0 ks->t.asks sp G U I)
 | U,I,.next lv args=>I lv (args.D U)
 | U,I,.any v0 e t=>∀U',Ag v0 U U'->inK .i64 (U'.i v0)=true->e.B U'=true->t.asks sp G U' I
 | U,I,.both _ a b=>a.asks sp G U I/\b.asks sp G U I
 | U,I,.loop lv v0 vks init body=>∃(inv:List Dt->Prop) (μ:List Dt->Nat),inv (init.D U)/\
   ∀U',Ag v0 U U'->okDs vks (varsD U' v0 vks)->inv (varsD U' v0 vks)->body.asks sp G U' (upd I lv fun ds'=>inv ds'/\μ ds'<μ (varsD U' v0 vks))
 | U,I,.cut lv v0 vks pre body=>∃inv:List Dt->Prop,pre.asks sp G U (upd I lv inv)/\
   ∀U',Ag v0 U U'->okDs vks (varsD U' v0 vks)->inv (varsD U' v0 vks)->body.asks sp G U' I
theorem Tr.asks_mono {sp:Spec} {G:Env->E->Prop}:∀(t:Tr) (U:Env) (I I':Nat->List Dt->Prop),(∀n ds,I n ds->I' n ds)->t.asks sp G U I->t.asks sp G U I':=by
 intro t
 induction t with
 | leaf | panic | stuck=>intro U I I' _ h;exact h
 | br e t f iht ihf=>intro U I I' hi h;exact⟨fun hb=>iht U I I' hi (h.1 hb),fun hb=>ihf U I I' hi (h.2 hb)⟩
 | call key ks args v0 t ih=>intro U I I' hi h;exact⟨h.1,fun he=>ih U I I' hi (h.2 he)⟩
 | next lv args=>intro U I I' hi h;exact hi _ _ h
 | any v0 e t ih=>intro U I I' hi h;exact fun U' h1 h2 h3=>ih U' I I' hi (h U' h1 h2 h3)
 | both v0 a b iha ihb=>intro U I I' hi h;exact⟨iha U I I' hi h.1,ihb U I I' hi h.2⟩
 | loop lv v0 vks init body ih=>
   intro U I I' hi h
   obtain⟨inv,μ,h1,h2⟩:=h
   refine⟨inv,μ,h1,fun U' ha hd hv=>ih U' _ _ (fun n ds=> ?_) (h2 U' ha hd hv)⟩
   unfold upd
   split
   ·exact id
   ·exact hi n ds
 | cut lv v0 vks pre body ihp ihb=>
   intro U I I' hi h
   obtain⟨inv,h1,h2⟩:=h
   refine⟨inv,ihp U _ _ (fun n ds=> ?_) h1,fun U' ha hd hv=>ihb U' I I' hi (h2 U' ha hd hv)⟩
   unfold upd
   split
   ·exact id
   ·exact hi n ds
 |_=>intro U I I' _ h;exact h
def Env.put (U:Env) (v0:Nat) (ds:List Dt):Env:=⟨fun i=>if v0<=i then dI ds (i-v0) else U.i i,fun i=>if v0<=i then dB ds (i-v0) else U.b i,fun i=>if v0<=i then dL ds (i-v0) else U.l i⟩
theorem lx (U:Env) (v0:Nat) (ds:List Dt):Ag v0 U (U.put v0 ds):=fun i hi=>by
 have:¬v0<=i:=by omega
 simp[Env.put,this]
theorem aoq {U:Env} {ds:List Dt} {v0:Nat}:∀(ks:List CK) (n:Nat),(∀m,n<=m->m<n+ks.length->U.i (v0+m)=dI ds m/\U.b (v0+m)=dB ds m/\U.l (v0+m)=dL ds m)->eqs U ds v0 n ks
 | [],_,_=>trivial
 | k::ks,n,h=>by
   have h0:=h n (Nat.le_refl _) (by simp)
   have h1:=aoq ks (n+1) (fun m h1 h2=>h m (by omega) (by simp at h2 ⊢;omega))
   cases k
   case int=>exact⟨h0.1,h1⟩
   case bool=>exact⟨h0.2.1,h1⟩
   case sl=>exact⟨h0.2.2,h1⟩
   all_goals exact h1
theorem aaO {U:Env} {v0:Nat} {ds:List Dt}:∀(vks:List VK) (n:Nat),okDs vks (ds.drop n)->(∀m,n<=m->m<n+vks.length->U.i (v0+m)=dI ds m/\U.b (v0+m)=dB ds m/\U.l (v0+m)=dL ds m)->varsD U (v0+n) vks=ds.drop n
 | [],n,h,_=>by
   cases hd:ds.drop n with
   | nil=>rfl
   | cons d r=>rw[hd] at h;exact h.elim
 | k::vks,n,h,hv=>by
   cases hd:ds.drop n with
   | nil=>rw[hd] at h;cases k<;>exact h.elim
   | cons d r=>
     rw[hd] at h
     obtain⟨d1,d2⟩:=dK hd
     have ih:=aaO vks (n+1) (by rw[d2];exact h.2) (fun m h1 h2=>hv m (by omega) (by simp at h2 ⊢;omega))
     rw[d2] at ih
     obtain⟨h1,h2,h3⟩:=hv n (Nat.le_refl _) (by simp)
     simp only[varsD]
     rw[show v0+n+1=v0+(n+1) by omega,ih]
     congr 1
     have ok:=h.1
     cases k with
     | int k=>
       cases d with
       | z x=>simp only[varD];rw[h1,ajt d1]
       | l L=>exact ok.elim
     | bool=>
       cases d with
       | z x=>
         simp only[varD];rw[h2]
         simp only[dB,ajt d1]
         rcases ok with rfl | rfl<;>rfl
       | l L=>exact ok.elim
     | list ks=>
       cases d with
       | z x=>exact ok.elim
       | l L=>simp only[varD];rw[h3,amZ d1]
theorem lu {U:Env} {v0:Nat} {ds:List Dt} {vks:List VK} (h:okDs vks ds) {U':Env} (ha:Ag (v0+vks.length) (U.put v0 ds) U'):varsD U' v0 vks=ds:=by
 refine(aaO (v0:=v0) (ds:=ds) vks 0 h (fun m _ h2=> ?_))
 have:=ha (v0+m) (by omega)
 simp only[Env.put,if_pos (Nat.le_add_right v0 m),Nat.add_sub_cancel_left] at this
 exact⟨this.1.symm,this.2.1.symm,this.2.2.symm⟩
theorem adK {sp:Spec} {G:Env->E->Prop}:∀(t:Tr) (n:Nat) (U:Env) (I:Nat->List Dt->Prop),t.sc n=true->(∀U',Ag n U U'->t.asks sp G U' I)->∃U',Ag n U U'/\t.holds sp G U' I:=by
 intro t
 induction t with
 | leaf v=>intro n U I _ h;exact⟨U,Ag.refl n U,h U (Ag.refl n U)⟩
 | panic=>intro n U I _ h;exact(h U (Ag.refl n U)).elim
 | stuck m=>intro n U I _ h;exact(h U (Ag.refl n U)).elim
 | next lv args=>intro n U I _ h;exact⟨U,Ag.refl n U,h U (Ag.refl n U)⟩
 | any v0 e t ih=>
   intro n U I hs h
   simp only[Tr.sc,thm0] at hs
   have hv':=thm1 hs.1
   subst hv'
   refine⟨U,Ag.refl _ _,fun z hz=> ?_⟩
   have hzi:∀U',Ag (v0+1) (U.put v0 [.z z]) U'->U'.i v0=z:=fun U' hag=>by
    rw[<-(hag v0 (by omega)).1]
    simp[Env.put,dI]
   cases hb:e.B (U.put v0 [.z z]) with
   | false=>exact⟨_,lx U v0 _,hzi _ (Ag.refl _ _),fun hf=>by rw[hb] at hf;cases hf⟩
   | true=>
     by_cases hne:∃U',Ag (v0+1) (U.put v0 [.z z]) U'/\e.B U'=false
     ·obtain⟨U',g1,g2⟩:=hne
      exact⟨U',(lx U v0 _).trans (g1.mono (by omega)),hzi U' g1,fun hf=>by rw[g2] at hf;cases hf⟩
     ·have hall:∀U',Ag (v0+1) (U.put v0 [.z z]) U'->e.B U'=true:=fun U' g1=>by
       cases hq:e.B U' with
       | true=>rfl
       | false=>exact absurd ⟨U',g1,hq⟩ hne
      obtain⟨U',g1,g2⟩:=ih (v0+1) (U.put v0 [.z z]) I hs.2 (fun U' hag=>h U (Ag.refl _ _) U' ((lx U v0 _).trans (hag.mono (by omega))) (by rw[hzi U' hag];exact hz) (hall U' hag))
      exact⟨U',(lx U v0 _).trans (g1.mono (by omega)),hzi U' g1,fun _=>g2⟩
 | br e t f iht ihf=>
   intro n U I hs h
   simp only[Tr.sc,thm0] at hs
   cases hb:e.B U with
   | true=>
     obtain⟨U',h1,h2⟩:=iht n U I hs.2.1 (fun U' ha=>(h U' ha).1 (by rw[<-(E.sc_eq ha e hs.1).2.1];exact hb))
     refine⟨U',h1,fun _=>h2,fun hf=> ?_⟩
     rw[<-(E.sc_eq h1 e hs.1).2.1,hb] at hf
     cases hf
   | false=>
     obtain⟨U',h1,h2⟩:=ihf n U I hs.2.2 (fun U' ha=>(h U' ha).2 (by rw[<-(E.sc_eq ha e hs.1).2.1];exact hb))
     refine⟨U',h1,fun hf=> ?_,fun _=>h2⟩
     rw[<-(E.sc_eq h1 e hs.1).2.1,hb] at hf
     cases hf
 | call key ks args v0 t ih=>
   intro n U I hs h
   simp only[Tr.sc,thm0] at hs
   obtain⟨ha,hv,ht⟩:=hs
   have hv':=thm1 hv
   subst hv'
   have ag1:∀U',Ag (v0+ks.length) (U.put v0 (sp.F key (args.D U))) U'->Ag v0 U U':=fun U' hag=>(lx U v0 _).trans (hag.mono (by omega))
   have he:∀U',Ag (v0+ks.length) (U.put v0 (sp.F key (args.D U))) U'->eqs U' (sp.F key (args.D U')) v0 0 ks:=fun U' hag=>by
    rw[<-(E.sc_eq (ag1 U' hag) args ha).2.2.2.2]
    refine aoq ks 0 (fun m h1 h2=> ?_)
    have:=hag (v0+m) (by omega)
    simp only[Env.put,if_pos (Nat.le_add_right v0 m),Nat.add_sub_cancel_left] at this
    exact⟨this.1.symm,this.2.1.symm,this.2.2.symm⟩
   obtain⟨U',h1,h2⟩:=ih (v0+ks.length) _ I ht (fun U' hag=>(h U' (ag1 U' hag)).2 (he U' hag))
   exact⟨U',ag1 U' h1,(h U' (ag1 U' h1)).1,he U' h1,h2⟩
 | both v0 a b iha ihb=>
   intro n U I hs h
   simp only[Tr.sc,thm0] at hs
   obtain⟨hv,ha,hb⟩:=hs
   have hv':=thm1 hv
   subst hv'
   obtain⟨U1,g1,g2⟩:=iha v0 U I ha (fun U' hag=>(h U' hag).1)
   obtain⟨U2,g3,g4⟩:=ihb v0 U I hb (fun U' hag=>(h U' hag).2)
   exact⟨U,Ag.refl _ _,⟨U1,g1,g2⟩,U2,g3,g4⟩
 | loop lv v0 vks init body ih=>
   intro n U I hs h
   simp only[Tr.sc,thm0] at hs
   obtain⟨hi,hv,hb⟩:=hs
   have hv':=thm1 hv
   subst hv'
   obtain⟨inv,μ,h1,h2⟩:=h U (Ag.refl _ _)
   refine⟨U,Ag.refl _ _,inv,μ,h1,fun ds hd hin=> ?_⟩
   obtain⟨U',g1,g2⟩:=ih (v0+vks.length) (U.put v0 ds) (upd I lv fun ds'=>inv ds'/\μ ds'<μ ds) hb (fun U' hag=>by
    have hvs:=lu hd hag
    have:=h2 U' ((lx U v0 ds).trans (hag.mono (by omega))) (by rw[hvs];exact hd) (by rw[hvs];exact hin)
    rw[hvs] at this
    exact this)
   exact⟨U',(lx U v0 ds).trans (g1.mono (by omega)),lu hd g1,g2⟩
 | cut lv v0 vks pre body ihp ihb=>
   intro n U I hs h
   simp only[Tr.sc,thm0] at hs
   obtain⟨hv,hp,hb⟩:=hs
   have hv':=thm1 hv
   subst hv'
   let J:List Dt->Prop:=fun ds=>∃(U1:Env) (inv:List Dt->Prop),Ag v0 U U1/\inv ds/\∀U',Ag v0 U1 U'->okDs vks (varsD U' v0 vks)->inv (varsD U' v0 vks)->body.asks sp G U' I
   obtain⟨U2,k1,k2⟩:=ihp v0 U (upd I lv J) hp (fun U' ha=>by
    obtain⟨inv,h1,h2⟩:=h U' ha
    refine pre.asks_mono U' _ _ (fun m ds=> ?_) h1
    unfold upd
    split
    ·exact fun hi=>⟨U',inv,ha,hi,h2⟩
    ·exact id)
   refine⟨U2,k1,J,k2,fun ds hd hin=> ?_⟩
   obtain⟨U1,inv,a1,a2,a3⟩:=hin
   obtain⟨U',g1,g2⟩:=ihb (v0+vks.length) (U1.put v0 ds) I hb (fun U' hag=>by
    have hvs:=lu hd hag
    exact a3 U' ((lx U1 v0 ds).trans (hag.mono (by omega))) (by rw[hvs];exact hd) (by rw[hvs];exact a2))
   exact⟨U',(k1.symm.trans a1).trans ((lx U1 v0 ds).trans (g1.mono (by omega))),lu hd g1,g2⟩
 |_=>intro n U I _ h;exact(h U (Ag.refl n U)).elim
def asv:C->Value->Bool
 | .int k (.lit z),.int k' z'=>bc k k'&&gN z z'
 | .bool (.tt b),.bool b'=>b==b'
 | .np,.pointer none=>true
 | .nsl,.slice none 0 0=>true
 | .nf,.nilFunc=>true
 | .nmp,.map none=>true
 | .str .ln,.string s=>s.data.toList.isEmpty
 | _,_=>false
def yj:List C->List Value->Bool
 | [],[]=>true
 | c::cs,v::vs=>asv c v&&yj cs vs
 | _,_=>false
theorem am2 {c:C} {v:Value} (h:asv c v=true) (U:Env) (j:J):c.den U j=some v:=by
 unfold asv at h
 split at h
 ·simp only[thm0] at h
  rw[aA h.1,dT h.2];rfl
 ·rw[db] at h;rw[h];rfl
 ·rfl
 ·rfl
 ·rfl
 ·rfl
 ·rename_i s
  obtain⟨⟨l⟩⟩:=s
  have:l=[]:=by simpa using h
  subst this
  rfl
 ·cases h
theorem qg (U:Env) (j:J):∀{cs:List C} {vs:List Value},yj cs vs=true->denL U j cs=some vs
 | [],[],_=>rfl
 | c::cs,v::vs,h=>by
   simp only[yj,thm0] at h
   simp[denL,am2 h.1,qg U j h.2]
def jd (P:Program):List Field->List (Nat×Nat)->Bool
 | [],[]=>true
 | f::fs,(off,ft)::l=>Nat.beq f.offset off&&(Nat.beq f.type ft&&((match P.info? ft with | some i=>!Nat.beq i.size 0 | none=>false)&&jd P fs l))
 | _,_=>false
def ckTI (P:Program) (t:Nat) (i:TI):Bool:=
 match P.info? t,P.underlying t with
 | some inf,some d=>
   (((match i.mapt with | none=>true | some (k,e)=>(match d with | .map k' e'=>Nat.beq k k'&&Nat.beq e e' | _=>false))&&(match i.kd with | 0=>true | 1=>(match d with | .pointer _=>true | _=>false) | 2=>(match d with | .string=>true | _=>false) | _=>false))&&(match inf.zero with | some (.agg _)=>i.agg | some _=>!i.agg | none=>false))&&(Nat.beq inf.size i.size&&((match inf.zero with | some z=>yj i.zero z.cells.toList&&Nat.beq z.cells.toList.length i.size | none=>false)&&(Nat.beq inf.bytes i.bytes&&
   (match d with
    | .struct fs=>i.agg&&(i.arr.isNone&&(i.ik.isNone&&(!i.isb&&(i.sle.isNone&&(!i.fnt&&jd P fs.toList i.fields)))))
    | .array n e=>i.agg&&((match i.arr with | some (m,e')=>Nat.beq n m&&Nat.beq e e' | none=>false)&&(i.ik.isNone&&(!i.isb&&(i.sle.isNone&&(!i.fnt&&i.fields.isEmpty)))))
    | .int k=>!i.agg&&(i.arr.isNone&&((match i.ik with | some k'=>bc k k' | none=>false)&&(!i.isb&&(i.sle.isNone&&(!i.fnt&&i.fields.isEmpty)))))
    | .bool=>!i.agg&&(i.arr.isNone&&(i.ik.isNone&&(i.sle.isNone&&(!i.fnt&&i.fields.isEmpty))))
    | .slice e=>!i.agg&&(i.arr.isNone&&(i.ik.isNone&&(!i.isb&&((match i.sle with | some e'=>Nat.beq e e' | none=>false)&&(!i.fnt&&i.fields.isEmpty)))))
    | .func _ _ _=>!i.agg&&(i.arr.isNone&&(i.ik.isNone&&(!i.isb&&(i.sle.isNone&&i.fields.isEmpty))))
    | _=>!i.agg&&(i.arr.isNone&&(i.ik.isNone&&(!i.isb&&(i.sle.isNone&&(!i.fnt&&i.fields.isEmpty)))))))))
 | _,_=>false
theorem kh {P:Program}:∀{fs:List Field} {l:List (Nat×Nat)},jd P fs l=true->∀(f off ft:Nat),l[f]? =some (off,ft)->∃x,fs[f]? =some x/\x.offset=off/\x.type=ft/\∃i,P.info? ft=some i/\i.size≠0
 | [],[],_,f,off,ft,h=>by simp at h
 | x::fs,(off',ft')::l,hc,f,off,ft,h=>by
   simp only[jd,thm0] at hc
   cases f with
   | zero=>
     simp only[bT,bk,Prod.mk.injEq] at h
     obtain⟨rfl,rfl⟩:=h
     refine⟨x,rfl,thm1 hc.1,thm1 hc.2.1,?_⟩
     have h3:=hc.2.2.1
     split at h3
     ·rename_i i hi
      refine⟨i,hi,fun e=> ?_⟩
      rw[e] at h3
      simp at h3
     ·cases h3
   | succ f=>exact kh hc.2.2.2 f off ft (by simpa using h)
theorem qi {P:Program}:∀{fs:List Field} {l:List (Nat×Nat)},jd P fs l=true->fs.map (fun f=>(f.offset,f.type))=l
 | [],[],_=>rfl
 | x::fs,(off',ft')::l,hc=>by
   simp only[jd,thm0] at hc
   rw[List.map_cons,qi hc.2.2.2,thm1 hc.1,thm1 hc.2.1]
theorem awt {P:Program} {t:Nat} {a b c} (hd:P.underlying t=some (.func a b c)) (f:Nat) (fa fb) (w:World):(Op.equal t (.func (.func f) fa fb) .nilFunc).run P w=.ok false w/\(Op.equal t .nilFunc .nilFunc).run P w=.ok true w:=by
 unfold Op.equal
 have key:∀d x y,(Op.equalIn (d+1) t x y).run P w=_:=fun d x y=>by rw[Op.equalIn,Sem.run_bind,run_underlying hd]
 exact⟨(key 9999 _ _).trans rfl,(key 9999 _ _).trans rfl⟩
theorem bB {P:Program} {t:Nat} {i:TI} (h:ckTI P t i=true) (heq:i.eqok=true->∀vs us,aF vs i.zero->aF us i.zero->∀w,(Op.equal t (.agg vs.toArray) (.agg us.toArray)).run P w=.ok (eqVs vs us) w) (hgrd:i.eqok=true->P.eqGuardType P.depth t=false) (hkey:i.keyok=true->∀vs,aF vs i.zero->∀b w,(Instr.checkKey b 10000 t (.agg vs.toArray)).run P w=.ok () w):TIok P t i:=by
 unfold ckTI at h
 split at h
 ·rename_i inf d hinf hd
  simp only[thm0] at h
  obtain⟨⟨⟨hmt,hkd⟩,hzs⟩,h1,h2,hby,h3⟩:=h
  have hsz:=thm1 h1
  have hti:∀w,(typeInfo t).run P w=.ok inf w:=fun w=>by simp[typeInfo,program,Sem.run_bind,Sem.run,hinf]
  obtain⟨z,hz,hz1,hz2⟩:∃z,inf.zero=some z/\yj i.zero z.cells.toList=true/\z.cells.toList.length=i.size:=by
   split at h2
   ·rename_i z hz
    rw[thm0] at h2
    exact⟨z,hz,h2.1,thm1 h2.2⟩
   ·cases h2
  clear h1 h2
  refine⟨?_,fun w=>by simp[sizeOf,Sem.run_bind,hti,hsz],⟨z,fun w=>by simp[zeroValue,Sem.run_bind,hti,hz],fun U j=>qg U j hz1⟩,?_,?_,?_,?_,?_,⟨d,hd⟩,heq,hgrd,?_,?_,?_,fun k e hk=> ?_,fun hk=> ?_,fun hk=> ?_,hkey,fun z' hz'=> ?_,⟨inf,z,hinf,hsz,thm1 hby,hz,hz2,fun U j=>qg U j hz1⟩⟩
  ·intro w
   unfold isAgg
   rw[Sem.run_bind,run_underlying hd]
   cases d<;>simp_all
  ·intro f off ft hf w a
   cases d<;>simp_all
   rename_i fs
   obtain⟨x,hx,rfl,rfl,inf',hi,hne⟩:=kh (P:=P) h3.2.2.2.2.2.2 f off ft hf
   have hx':fs[f]? =some x:=by rw[<-jD];exact hx
   have hs:∀w,(sizeOf x.type).run P w=.ok inf'.size w:=fun w=>by simp[sizeOf,typeInfo,program,Sem.run_bind,Sem.run,hi]
   simp[Instr.fieldAt,run_underlying hd,Sem.run_bind,hx',Instr.sureAddr,fieldPlace,hs,hne]
  ·intro f off ft hf w cs
   cases d<;>simp_all
   rename_i fs
   obtain⟨x,hx,rfl,rfl,inf',hi,hne⟩:=kh (P:=P) h3.2.2.2.2.2.2 f off ft hf
   have hx':fs[f]? =some x:=by rw[<-jD];exact hx
   simp[Instr.field,run_underlying hd,Sem.run_bind,hx',asAgg]
  ·intro n e ha
   cases d<;>simp_all
  ·intro h1 h2
   cases d<;>simp_all
   exact qi (P:=P) h3.2.2.2.2
  ·intro k hk
   cases d<;>simp_all
   rw[aA h3.2.2.1]
  ·intro hb
   cases d<;>simp_all
  ·intro e he
   cases d<;>simp_all
  ·intro hb f fa fb w
   cases d<;>simp_all
   exact awt hd f fa fb w
  ·rw[hk] at hmt
   dsimp only at hmt
   split at hmt
   ·simp only[thm0] at hmt
    rw[hd,thm1 hmt.1,thm1 hmt.2]
   ·cases hmt
  ·simp only[hk] at hkd
   cases d<;>first | exact⟨_,hd⟩ | cases hkd
  ·simp only[hk] at hkd
   cases d<;>first | exact hd | cases hkd
  ·have e0:=hz' ⟨#[],fun _ _=>0,0,default,#[]⟩
   have e1:z'=z:=by
    simp[zeroValue,Sem.run_bind,hti,hz] at e0
    exact e0.symm
   subst e1
   rw[hz] at hzs
   cases z'<;>simp_all [Value.cells]
 ·cases h
theorem an:∀{z z':List C} {vs:List Value},aN z z'=true->aF vs z->aF vs z'
 | [],[],vs,_,h=>h
 | .int k a::l,.int k' b::r,vs,hk,h=>by
   simp only[aN,thm0] at hk
   obtain⟨x,us,rfl,h1,h2⟩:=ak h
   exact⟨aA hk.1,h1,an hk.2 h2⟩
 | .bool a::l,.bool b::r,vs,hk,h=>by
   simp only[aN] at hk
   obtain⟨x,us,rfl,h2⟩:=cQ h
   exact an (z:=l) (z':=r) hk h2
def bJ:List Value->List Lit
 | .int k x::l=>.int k x::bJ l
 | .bool b::l=>.bool b::bJ l
 | _=>[]
theorem uD:∀{z:List C} {vs us:List Value},aF vs z->aF us z->(eqVs vs us=true↔bJ vs=bJ us)
 | [],vs,us,h,h'=>by rw[aU h,aU h'];simp[eqVs]
 | .int k e::r,vs,us,h,h'=>by
   obtain⟨x,l,rfl,_,h2⟩:=ak h
   obtain⟨y,m,rfl,_,g2⟩:=ak h'
   simp[eqVs,bJ,uD h2 g2]
 | .bool e::r,vs,us,h,h'=>by
   obtain⟨x,l,rfl,h2⟩:=cQ h
   obtain⟨y,m,rfl,g2⟩:=cQ h'
   simp[eqVs,bJ,uD h2 g2]
 | .yld _::_,vs,us,h,_ | .wn _ _ _ _ _::_,vs,us,h,_ | .aw _ _ _ _ _ _ _::_,vs,us,h,_ | .str _::_,vs,us,h,_ | .pe _ _ _ _ _ _::_,vs,us,h,_ | .nmp::_,vs,us,h,_ | .mp _::_,vs,us,h,_ | .itp _ _::_,vs,us,h,_ | .ptr _ _::_,vs,us,h,_ | .fp _ _::_,vs,us,h,_ | .fn _::_,vs,us,h,_ | .np::_,vs,us,h,_ | .undef::_,vs,us,h,_ | .sl _::_,vs,us,h,_ | .ep _ _ _ _::_,vs,us,h,_ | .nsl::_,vs,us,h,_ | .nf::_,vs,us,h,_ | .clo _ _ _::_,vs,us,h,_=>by
   cases vs with
   | nil=>exact h.elim
   | cons v l=>cases v<;>exact h.elim
theorem eh {P:Program} {t:Nat} {z:List C} (hk:P.keyTypeAt 6 t=true) (hf:∀vs,aF vs z->(Value.agg vs.toArray).formed P t=true) (D:Nat) (hl:∀vs,aF vs z->P.keyLits D t vs=some (bJ vs)) (vs us:List Value) (hv:aF vs z) (hu:aF us z) (w:World):
  (Op.equal t (.agg vs.toArray) (.agg us.toArray)).run P w=.ok (eqVs vs us) w:=by
 obtain⟨r,hr,hiff⟩:=run_equalIn_deep (P:=P) 9994 6 t hk w D D (.agg vs.toArray) (.agg us.toArray) _ _ (hf vs hv) (hf us hu) (by simpa[Value.cells] using hl vs hv) (by simpa[Value.cells] using hl us hu)
 unfold Op.equal Op.maxDepth
 rw[show(10000:Nat)=9994+6 from rfl,hr]
 congr 1
 rw[aJ,hiff,uD hv hu]
theorem cz {f:Nat->TI->Bool} {l:List (Nat×TI)} (h:(l.all fun p=>f p.1 p.2)=true) {t:Nat} {i:TI} (hm:(t,i)∈l):f t i=true:=thm7.1 h (t,i) hm
structure Ini where
 vk:List VK
 rows:List RowOb
 fb:List (List C)
def iniC (v id:Nat):CK->C×List VK×List RowOb
 | .int k=>(.int k (.var v),[.int k],[])
 | .bool=>(.bool (.bw v),[.bool],[])
 | .fn g=>(.fn g,[],[])
 | .lit k z=>(.int k (.lit z),[],[])
 | .sl ks ty=>(.sl id,[.list ks],[⟨ks,ty,.lw v,false,kdOf ks⟩])
 | .nf=>(.nf,[],[])
 | .any=>(.undef,[],[])
 | .rl ks ty L=>(.sl id,[],[⟨ks,ty,rlE ks .ln L,false,kdOf ks⟩])
 | .el ks ty=>(.ep id ks.length (.lit 0) 0,[.list ks],[⟨ks,ty,.lw v,false,kdOf ks⟩])
def iniL (v id:Nat):List CK->List C×List VK×List RowOb
 | []=>([],[],[])
 | k::ks=>let x:=iniC v id k;let y:=iniL (v+x.2.1.length) (id+x.2.2.length) ks;(x.1::y.1,x.2.1++y.2.1,x.2.2++y.2.2)
def iniA (v id fid:Nat):List Sh->List V×List VK×List RowOb×List (List C)
 | []=>([],[],[],[])
 | .one k::ss=>let x:=iniC v id k;let y:=iniA (v+x.2.1.length) (id+x.2.2.length) fid ss;(.one x.1::y.1,x.2.1++y.2.1,x.2.2++y.2.2.1,y.2.2.2)
 | .agg ks::ss=>let x:=iniL v id ks;let y:=iniA (v+x.2.1.length) (id+x.2.2.length) fid ss;(.agg x.1::y.1,x.2.1++y.2.1,x.2.2++y.2.2.1,y.2.2.2)
 | .ptr ks::ss=>let x:=iniL v id ks;let y:=iniA (v+x.2.1.length) (id+x.2.2.length) (fid+1) ss;(.one (.fp fid 0)::y.1,x.2.1++y.2.1,x.2.2++y.2.2.1,x.1::y.2.2.2)
def ckOk:CK->Bool
 | .sl ks _=>decide (0<ks.length)
 | .el ks _=>decide (0<ks.length) &&!cd ks evKs
 | .any=>false
 | _=>true
def ava:CK->Bool
 | .any=>true
 | k=>ckOk k
def akM:Sh->Bool
 | .ptr ks=>ks.all ava
 | s=>s.cks.all ckOk
def shOk (ss:List Sh):Bool:=ss.all akM
section
variable {P:Program} {sp:Spec} {U:Env} {w:World}
theorem vh {U:Env}:∀(a b:List VK) (v:Nat),varsD U v (a++b)=varsD U v a++varsD U (v+a.length) b
 | [],b,v=>rfl
 | k::a,b,v=>by
   simp only[List.cons_append,varsD,vh a b (v+1),List.length_cons]
   rw[show v+1+a.length=v+(a.length+1) by omega]
theorem mL {U:Env}:∀(a:List VK) (v:Nat),(varsD U v a).length=a.length
 | [],v=>rfl
 | k::a,v=>by simp[varsD,mL a (v+1)]
theorem aca:∀{a b:List VK} {x y:List Dt},okDs a x->okDs b y->okDs (a++b) (x++y)
 | [],b,[],y,_,h=>h
 | k::a,b,d::x,y,h,h'=>⟨h.1,aca h.2 h'⟩
 | [],b,_::_,y,h,_=>h.elim
 | k::a,b,[],y,h,_=>by cases k<;>exact h.elim
theorem ab9:∀{a:List VK} {x:List Dt},okDs a x->x.length=a.length
 | [],[],_=>rfl
 | k::a,d::x,h=>by simp[ab9 h.2]
 | [],_::_,h=>h.elim
 | k::a,[],h=>by cases k<;>exact h.elim
theorem avi (b:Bool):b2i b=0\/b2i b=1:=by cases b<;>simp[b2i]
structure ArgOk (w:World) (v id:Nat) (vk:List VK) (rows:List RowOb) (d:List Dt) (svs:List SV) (den:Env->J->Prop):Prop where
 len:svs.length=rows.length
 zz:∀s∈svs,∀p∈s.z,w.heap[p.1]? =some p.2/\isCl p.2=true
 ok:okDs vk d
 at':∀(U:Env) (j:J),varsD U v vk=d->(∀(i:Nat) s,svs[i]? =some s->j.s (id+i)=some s)->den U j/\∀(i:Nat) s q,svs[i]? =some s->rows[i]? =some q->q.own=false/\∀base,RowOk U base w s q
def evZ (w:World):List SV->List (Nat×Obj)
 | []=>[]
 | x::l=>(match x.blk false with
   | some k=>(match w.heap[k]? with | some o=>[(k,o)] | none=>[])
   | none=>[])++evZ w l
theorem aon:∀{ins:List SV},(∀x∈ins,∀k,x.blk false=some k->∃o,w.heap[k]? =some o/\isCl o=true)->∀p∈evZ w ins,w.heap[p.1]? =some p.2/\isCl p.2=true
 | [],_,p,hp=>by cases hp
 | x::l,h,p,hp=>by
   simp only[evZ,List.mem_append] at hp
   rcases hp with hp | hp
   ·cases hb:x.blk false with
    | none=>rw[hb] at hp;cases hp
    | some k=>
      obtain⟨o,h1,h2⟩:=h x bD k hb
      rw[hb] at hp
      simp only[h1,du] at hp
      subst hp
      exact⟨h1,h2⟩
   ·exact aon (fun y hy=>h y (cm _ hy)) p hp
theorem aoo:∀{ins:List SV} {x:SV},x∈ins->∀p∈evZ w [x],p∈evZ w ins
 | y::l,x,h,p,hp=>by
   rcases List.mem_cons.1 h with rfl | h
   ·simp only[evZ,List.append_nil] at hp
    simp only[evZ,List.mem_append]
    exact .inl hp
   ·have:=aoo h p hp
    simp only[evZ,List.mem_append]
    exact .inr this
theorem EvIn.ei {row:List Int} {x:SV} {z:List (Nat×Obj)} (h:EvIn w row x) (hz:∀p∈evZ w [x],p∈z):EiOk z row x:=by
 have blk:∀k,x.blk false=some k->∃o,(k,o)∈z/\w.heap[k]? =some o:=fun k hk=>by
  obtain⟨o,h1,h2⟩:=h.blk k hk
  exact⟨o,hz _ (by simp[evZ,hk,h1]),h1⟩
 refine⟨h.n,h.most,h.rest,fun w' hw=>h.rd.kept (fun k hk=> ?_),fun k hk=> ?_⟩
 ·obtain⟨o,h1,h2⟩:=blk k hk
  rw[h2];exact hw _ h1
 ·obtain⟨o,h1,_⟩:=blk k hk
  exact⟨o,h1⟩
theorem aae {k:CK} {xs r:List Dt} {u:Value} (hk:ckOk k=true) (h:yk w k xs u r) (v id:Nat):∃d svs,xs=d++r/\ArgOk w v id (iniC v id k).2.1 (iniC v id k).2.2 d svs (fun U j=>(iniC v id k).1.den U j=some u):=by
 cases k with
 | int k=>
   obtain⟨x,rfl,rfl,hx⟩:=h
   refine⟨[.z x],[],rfl,rfl,fun s hs=>(by cases hs),⟨hx,trivial⟩,fun U j hd _=>⟨?_,fun i s q hs=>by simp at hs⟩⟩
   simp only[iniC,varsD,varD,thm5,Dt.z.injEq,and_true] at hd
   simp[iniC,C.den,E.I,hd]
 | bool=>
   obtain⟨b,rfl,rfl⟩:=h
   refine⟨[.z (b2i b)],[],rfl,rfl,fun s hs=>(by cases hs),⟨avi b,trivial⟩,fun U j hd _=>⟨?_,fun i s q hs=>by simp at hs⟩⟩
   simp only[iniC,varsD,varD,thm5,Dt.z.injEq,and_true] at hd
   simp[iniC,C.den,E.B,kj hd]
 | fn g=>obtain⟨rfl,rfl⟩:=h;exact⟨[],[],rfl,rfl,fun s hs=>(by cases hs),trivial,fun U j _ _=>⟨rfl,fun i s q hs=>by simp at hs⟩⟩
 | lit k z=>obtain⟨rfl,rfl⟩:=h;exact⟨[],[],rfl,rfl,fun s hs=>(by cases hs),trivial,fun U j _ _=>⟨rfl,fun i s q hs=>by simp at hs⟩⟩
 | nf=>obtain⟨rfl,rfl⟩:=h;exact⟨[],[],rfl,rfl,fun s hs=>(by cases hs),trivial,fun U j _ _=>⟨rfl,fun i s q hs=>by simp at hs⟩⟩
 | any=>cases hk
 | el ks ty=>
   obtain⟨row,p,rfl,rfl,hrow,hlt,hcell⟩:=h
   have hL:RowsIn ks [row]:=⟨fun r hr=>(by rw[du.1 hr];exact hrow),by simp[maxLen]⟩
   simp only[ckOk,thm0,aZ,Bool.not_eq_true'] at hk
   have hkd:kdOf ks=.sl:=by
    rcases bM ks with⟨h1,_⟩ | ⟨_,h1⟩
    ·rw[h1] at hk;exact absurd hk.2 (by decide)
    ·exact h1
   have hp0:p.add 0=p:=by unfold Addr.add;split<;>simp_all
   refine⟨[.l [row]],[⟨some p,1,1,[]⟩],rfl,rfl,fun s' hs'=>(by rw[du.1 hs'];intro p hp;cases hp),⟨hL,trivial⟩,fun U j hd hs=>⟨?_,fun i s' q hs' hq=> ?_⟩⟩
   ·have:=hs 0 _ rfl
    simp only[Nat.add_zero] at this
    simp[iniC,C.den,this,SV.elem,E.I,hp0]
   ·simp only[iniC,varsD,varD,thm5,Dt.l.injEq,and_true] at hd
    cases i with
    | succ i=>simp at hs'
    | zero=>
      simp only[iniC,bT,bk] at hs' hq
      subst hs' hq
      refine⟨rfl,fun base=>SlOk.row ⟨?_,?_,hk.1,fun k hb=> ?_,fun ho=>(by cases ho),?_⟩ hkd⟩
      ·simp only[E.R,hd];rfl
      ·simp only[E.R,hd];exact hL
      ·have hb:=aL hb
       simp only[SV.v,Value.ownBlock,bk] at hb
       subst hb
       exact hlt
      ·simp only[E.R,hd]
       refine⟨by rw[cr hL.row];rfl,Nat.le_refl _,by simp[maxLen],fun h=>(by cases h),fun a ha i u hu=> ?_⟩
       cases ha
       exact hcell i u hu
 | rl ks ty L=>
   obtain⟨rfl,hok,s,rfl,hn,hrd,hlt⟩:=h
   refine⟨[],[{s with z:=[]}],rfl,rfl,fun s' hs'=>(by rw[du.1 hs'];intro p hp;cases hp),trivial,fun U j hd hs=>⟨?_,fun i s' q hs' hq=> ?_⟩⟩
   ·have:=hs 0 _ rfl
    simp only[Nat.add_zero] at this
    show(j.s id).map SV.v=_
    rw[this];rfl
   ·obtain⟨hR,hrows,hp,hkd⟩:=zP (U:=U) hok
    unfold TRow at hrd
    rw[hkd] at hrd
    cases i with
    | succ i=>simp at hs'
    | zero=>
      simp only[iniC,bT,bk] at hs' hq
      subst hs' hq
      refine⟨rfl,fun base=>SlOk.row ⟨?_,?_,hp,hlt,fun ho=>(by cases ho),?_⟩ hkd⟩
      ·simp only[hR];exact hn
      ·simp only[hR];exact hrows
      ·simp only[hR];exact hrd
 | sl ks ty=>
   obtain⟨L,s,rfl,rfl,hn,hrd,hrows,hlt⟩:=h
   unfold TRow at hrd
   rcases bM ks with⟨hks,hkd⟩ | ⟨_,hkd⟩
   ·rw[hkd] at hrd
    obtain⟨ins,hi1,hi2,hi3⟩:=hrd
    have hblk:∀x∈ins,∀k,x.blk false=some k->∃o,w.heap[k]? =some o/\isCl o=true:=fun x hx=>by
     obtain⟨i,hi⟩:=List.getElem?_of_mem hx
     have hlt:i<L.length:=by rw[<-hi1];exact(cf.1 hi).1
     exact(hi3 i L[i] x (thm6 hlt) hi).blk
    refine⟨[.l L],[{s with z:=evZ w ins}],rfl,rfl,fun s' hs'=>(by rw[du.1 hs'];exact aon hblk),⟨hrows,trivial⟩,fun U j hd hs=>⟨?_,fun i s' q hs' hq=> ?_⟩⟩
    ·have:=hs 0 _ rfl
     simp only[Nat.add_zero] at this
     show(j.s id).map SV.v=_
     rw[this];rfl
    ·simp only[iniC,varsD,varD,thm5,Dt.l.injEq,and_true] at hd
     cases i with
     | succ i=>simp at hs'
     | zero=>
       simp only[iniC,bT,bk] at hs' hq
       subst hs' hq
       refine⟨rfl,fun base=>EvOk.row ⟨hks,?_,?_,hlt,fun ho=>(by cases ho),ins,?_,fun ho=>(by cases ho),?_,fun i row x hr hx=> ?_⟩ hkd⟩
       ·simp only[E.R,hd];exact hn
       ·simp only[E.R,hd];exact hrows
       ·simp only[E.R,hd];exact hi1
       ·simp only[E.R,hd];exact hi2
       ·simp only[E.R,hd] at hr
        exact(hi3 i row x hr hx).ei (fun p hp=>(aoo (fq hx)) p hp)
   ·rw[hkd] at hrd
    refine⟨[.l L],[{s with z:=[]}],rfl,rfl,fun s' hs'=>(by rw[du.1 hs'];intro p hp;cases hp),⟨hrows,trivial⟩,fun U j hd hs=>⟨?_,fun i s' q hs' hq=> ?_⟩⟩
    ·have:=hs 0 _ rfl
     simp only[Nat.add_zero] at this
     show(j.s id).map SV.v=_
     rw[this];rfl
    ·simp only[iniC,varsD,varD,thm5,Dt.l.injEq,and_true] at hd
     cases i with
     | succ i=>simp at hs'
     | zero=>
       simp only[iniC,bT,bk] at hs' hq
       subst hs' hq
       refine⟨rfl,fun base=>SlOk.row ⟨?_,?_,thm3 hk,hlt,fun ho=>(by cases ho),?_⟩ hkd⟩
       ·simp only[E.R,hd];exact hn
       ·simp only[E.R,hd];exact hrows
       ·simp only[E.R,hd];exact hrd
theorem ArgOk.app {v id:Nat} {vk1 vk2:List VK} {rows1 rows2:List RowOb} {d1 d2:List Dt} {s1 s2:List SV} {den1 den2:Env->J->Prop} (h1:ArgOk w v id vk1 rows1 d1 s1 den1) (h2:ArgOk w (v+vk1.length) (id+rows1.length) vk2 rows2 d2 s2 den2):
  ArgOk w v id (vk1++vk2) (rows1++rows2) (d1++d2) (s1++s2) (fun U j=>den1 U j/\den2 U j):=by
 refine⟨by simp[h1.len,h2.len],fun s hs=>(List.mem_append.1 hs).elim (h1.zz s) (h2.zz s),aca h1.ok h2.ok,fun U j hd hs=> ?_⟩
 rw[vh] at hd
 obtain⟨e1,e2⟩:=List.append_inj hd (by rw[mL,ab9 h1.ok])
 obtain⟨a1,a2⟩:=h1.at' U j e1 (fun i s hi=>hs i s (by rw[thm8 (cf.1 hi).1];exact hi))
 obtain⟨b1,b2⟩:=h2.at' U j e2 (fun i s hi=>by
  have:=hs (s1.length+i) s (by rw[thm9 (by omega),Nat.add_sub_cancel_left];exact hi)
  rw[h1.len] at this
  rwa [Nat.add_assoc])
 refine⟨⟨a1,b1⟩,fun i s q hi hq=> ?_⟩
 rcases aX i s1.length with hlt | hge
 ·rw[thm8 hlt] at hi
  rw[thm8 (by rw[<-h1.len];exact hlt)] at hq
  exact a2 i s q hi hq
 ·rw[thm9 hge] at hi
  rw[thm9 (by rw[<-h1.len];exact hge),<-h1.len] at hq
  exact b2 _ s q hi hq
theorem ai2:∀{ks:List CK} {xs r:List Dt} {us:List Value},ks.all ckOk=true->jx w ks xs us r->∀(v id:Nat),∃d svs,xs=d++r/\ArgOk w v id (iniL v id ks).2.1 (iniL v id ks).2.2 d svs (fun U j=>denL U j (iniL v id ks).1=some us)
 | [],xs,r,us,_,h,v,id=>by
   obtain⟨rfl,rfl⟩:=h
   exact⟨[],[],rfl,rfl,fun s hs=>(by cases hs),trivial,fun U j _ _=>⟨rfl,fun i s q hs=>by simp at hs⟩⟩
 | k::ks,xs,r,us,hk,h,v,id=>by
   simp only[List.all_cons,thm0] at hk
   obtain⟨u,us',r',rfl,h1,h2⟩:=h
   obtain⟨d1,s1,rfl,g1⟩:=aae hk.1 h1 v id
   obtain⟨d2,s2,rfl,g2⟩:=ai2 hk.2 h2 (v+(iniC v id k).2.1.length) (id+(iniC v id k).2.2.length)
   refine⟨d1++d2,s1++s2,by simp,?_⟩
   obtain⟨q1,qz,q2,q3⟩:=g1.app g2
   refine⟨q1,qz,q2,fun U j hd hs=> ?_⟩
   obtain⟨⟨a1,a2⟩,a3⟩:=q3 U j hd hs
   exact⟨by simp only[iniL,denL,a1,a2],a3⟩
def FbAt (w:World) (U:Env) (j:J) (fb:List (List C)) (fid:Nat) (fks:List Nat):Prop:=
 ∀(b:Nat) cs,fb[b]? =some cs->∃k vs,fks[b]? =some k/\k<w.heap.size/\denL U j cs=some vs/\∀(o:Nat) u,vs[o]? =some u->gW cs o=true->w.cell? ⟨k,o,none⟩=some u
theorem aad:∀{ks:List CK} {xs r:List Dt} {us:List Value},ks.all ava=true->jx w ks xs us r->∀(v id:Nat),∃d svs us',xs=d++r/\ArgOk w v id (iniL v id ks).2.1 (iniL v id ks).2.2 d svs (fun U j=>denL U j (iniL v id ks).1=some us')/\∀(o:Nat) u,us'[o]? =some u->gW (iniL v id ks).1 o=true->us[o]? =some u
 | [],xs,r,us,_,h,v,id=>by
   obtain⟨rfl,rfl⟩:=h
   exact⟨[],[],[],rfl,⟨rfl,fun s hs=>(by cases hs),trivial,fun U j _ _=>⟨rfl,fun i s q hs=>by simp at hs⟩⟩,fun o u hu=>by simp at hu⟩
 | k::ks,xs,r,us,hk,h,v,id=>by
   simp only[List.all_cons,thm0] at hk
   obtain⟨u,us1,r',rfl,h1,h2⟩:=h
   by_cases hany:k=.any
   ·subst hany
    have e1:xs=r':=h1
    subst e1
    obtain⟨d2,s2,us2,rfl,g2,g3⟩:=aad hk.2 h2 v id
    refine⟨d2,s2,Go.undef::us2,rfl,?_,fun o u' hu hs=> ?_⟩
    ·obtain⟨q1,qz,q2,q3⟩:=g2
     refine⟨q1,qz,q2,fun U j hd hs=> ?_⟩
     obtain⟨a1,a2⟩:=q3 U j hd hs
     exact⟨by simp only[iniL,iniC,denL,C.den];simp only[List.length_nil,Nat.add_zero];rw[a1],a2⟩
    ·cases o with
     | zero=>cases hs
     | succ o=>simpa using g3 o u' (by simpa using hu) hs
   ·have hk1:ckOk k=true:=by
     have:=hk.1
     cases k<;>first | exact this | exact absurd rfl hany
    obtain⟨d1,s1,rfl,g1⟩:=aae hk1 h1 v id
    obtain⟨d2,s2,us2,rfl,g2,g3⟩:=aad hk.2 h2 (v+(iniC v id k).2.1.length) (id+(iniC v id k).2.2.length)
    refine⟨d1++d2,s1++s2,u::us2,by simp,?_,fun o u' hu hs=> ?_⟩
    ·obtain⟨q1,qz,q2,q3⟩:=g1.app g2
     refine⟨q1,qz,q2,fun U j hd hs=> ?_⟩
     obtain⟨⟨a1,a2⟩,a3⟩:=q3 U j hd hs
     exact⟨by simp only[iniL,denL,a1,a2],a3⟩
    ·cases o with
     | zero=>simpa using hu
     | succ o=>simpa using g3 o u' (by simpa using hu) hs
theorem uH:∀{ss:List Sh} {xs:List Dt} {vals:List Value},shOk ss=true->lZ w ss xs vals->∀(v id fid:Nat),∃svs fks,fks.length=(iniA v id fid ss).2.2.2.length/\(iniA v id fid ss).1.length=vals.length/\ArgOk w v id (iniA v id fid ss).2.1 (iniA v id fid ss).2.2.1 xs svs (fun U j=>(∀(i:Nat) k,fks[i]? =some k->j.f (fid+i)=some k)->(∀(i:Nat) x,(iniA v id fid ss).1[i]? =some x->∃u,vals[i]? =some u/\x.den U j=some u)/\FbAt w U j (iniA v id fid ss).2.2.2 fid fks)
 | [],xs,vals,_,h,v,id,fid=>by
   obtain⟨rfl,rfl⟩:=h
   exact⟨[],[],rfl,rfl,rfl,fun s hs=>(by cases hs),trivial,fun U j _ _=>⟨fun _=>⟨fun i x hx=>by simp[iniA] at hx,fun b cs hb=>by simp[iniA] at hb⟩,fun i s q hs=>by simp at hs⟩⟩
 | .one k::ss,xs,vals,hk,h,v,id,fid=>by
   simp only[shOk,akM,List.all_cons,thm0,Sh.cks,List.all_nil,Bool.and_true] at hk
   obtain⟨u,us,r,rfl,h1,h2⟩:=h
   obtain⟨d1,s1,rfl,g1⟩:=aae hk.1 h1 v id
   obtain⟨s2,fks,hf,hl,g2⟩:=uH (ss:=ss) hk.2 h2 (v+(iniC v id k).2.1.length) (id+(iniC v id k).2.2.length) fid
   obtain⟨q1,qz,q2,q3⟩:=g1.app g2
   refine⟨s1++s2,fks,hf,by simp[iniA,hl],q1,qz,q2,fun U j hd hs=> ?_⟩
   obtain⟨⟨a1,a2⟩,a3⟩:=q3 U j hd hs
   refine⟨fun hj=> ?_,a3⟩
   obtain⟨b1,b2⟩:=a2 hj
   refine⟨fun i x hx=> ?_,b2⟩
   cases i with
   | zero=>simp only[iniA,bT,bk] at hx;subst hx;exact⟨u,rfl,a1⟩
   | succ i=>exact b1 i x (by simpa[iniA] using hx)
 | .agg ks::ss,xs,vals,hk,h,v,id,fid=>by
   simp only[shOk,akM,List.all_cons,thm0,Sh.cks] at hk
   obtain⟨ws,us,r,rfl,h1,h2⟩:=h
   obtain⟨d1,s1,rfl,g1⟩:=ai2 hk.1 h1 v id
   obtain⟨s2,fks,hf,hl,g2⟩:=uH (ss:=ss) hk.2 h2 (v+(iniL v id ks).2.1.length) (id+(iniL v id ks).2.2.length) fid
   obtain⟨q1,qz,q2,q3⟩:=g1.app g2
   refine⟨s1++s2,fks,hf,by simp[iniA,hl],q1,qz,q2,fun U j hd hs=> ?_⟩
   obtain⟨⟨a1,a2⟩,a3⟩:=q3 U j hd hs
   refine⟨fun hj=> ?_,a3⟩
   obtain⟨b1,b2⟩:=a2 hj
   refine⟨fun i x hx=> ?_,b2⟩
   cases i with
   | zero=>simp only[iniA,bT,bk] at hx;subst hx;exact⟨_,rfl,by simp[V.den,a1]⟩
   | succ i=>exact b1 i x (by simpa[iniA] using hx)
 | .ptr ks::ss,xs,vals,hk,h,v,id,fid=>by
   simp only[shOk,akM,List.all_cons,thm0] at hk
   obtain⟨kk,ws,us,r,rfl,h1,hlt,hcell,h2⟩:=h
   obtain⟨d1,s1,ws',rfl,g1,gw⟩:=aad hk.1 h1 v id
   obtain⟨s2,fks,hf,hl,g2⟩:=uH (ss:=ss) hk.2 h2 (v+(iniL v id ks).2.1.length) (id+(iniL v id ks).2.2.length) (fid+1)
   obtain⟨q1,qz,q2,q3⟩:=g1.app g2
   refine⟨s1++s2,kk::fks,by simp[iniA,hf],by simp[iniA,hl],q1,qz,q2,fun U j hd hs=> ?_⟩
   obtain⟨⟨a1,a2⟩,a3⟩:=q3 U j hd hs
   refine⟨fun hj=> ?_,a3⟩
   obtain⟨b1,b2⟩:=a2 (fun i k hi=>by
    have:=hj (i+1) k (by simpa using hi)
    rwa [show fid+(i+1)=fid+1+i by omega] at this)
   refine⟨fun i x hx=> ?_,fun b cs hb=> ?_⟩
   ·cases i with
    | zero=>
      simp only[iniA,bT,bk] at hx
      subst hx
      have:=hj 0 kk rfl
      rw[Nat.add_zero] at this
      exact⟨_,rfl,by simp[V.den,C.den,this]⟩
    | succ i=>exact b1 i x (by simpa[iniA] using hx)
   ·cases b with
    | zero=>
      simp only[iniA,bT,bk] at hb
      subst hb
      exact⟨kk,ws',rfl,hlt,a1,fun o u hu hs=>hcell o u (gw o u hu hs)⟩
    | succ b=>exact b2 b cs (by simpa[iniA] using hb)
theorem ed (w:World) (o:Obj):w.heap.size<(w.alloc o).heap.size:=by
 have h:=heap_alloc_new w o
 rcases aX w.heap.size (w.alloc o).heap.size with h1 | h1
 ·exact h1
 ·rw[Array.getElem?_eq_none h1] at h;cases h
theorem EvIn.mono {w':World} (hx:Ext w w') {row:List Int} {x:SV} (h:EvIn w row x):EvIn w' row x:=by
 have lt:∀k,x.blk false=some k->k<w.heap.size:=fun k hk=>by
  obtain⟨o,h1,_⟩:=h.blk k hk
  exact(fm.1 h1).1
 refine⟨h.n,h.most,h.rest,h.rd.kept (fun k hk=>hx.block k (lt k hk)),fun k hk=> ?_⟩
 obtain⟨o,h1,h2⟩:=h.blk k hk
 exact⟨o,by rw[hx.block k (lt k hk)];exact h1,h2⟩
theorem TRow.mono {w':World} (hx:Ext w w') {ks:List CE} {s:SV} {L:List (List Int)} (h:TRow w ks s L) (hb:∀k,s.blk false=some k->k<w.heap.size):TRow w' ks s L:=by
 unfold TRow at h ⊢
 split
 ·rename_i hk
  rw[hk] at h
  obtain⟨ins,h1,h2,h3⟩:=h
  exact⟨ins,h1,h2.kept (fun k hk=>hx.block k (hb k hk)),fun i row x hr hi=>(h3 i row x hr hi).mono hx⟩
 ·rename_i hk
  rcases bM ks with⟨_,h1⟩ | ⟨_,h1⟩
  ·exact absurd h1 hk
  ·rw[h1] at h
   exact h.kept (fun k hk=>hx.block k (hb k hk))
theorem mF {w':World} (hx:Ext w w') {k:CK} {xs r:List Dt} {u:Value} (h:yk w k xs u r):yk w' k xs u r:=by
 cases k with
 | sl ks ty=>
   obtain⟨L,s,h1,h2,h3,h4,h5,h6⟩:=h
   exact⟨L,s,h1,h2,h3,h4.mono hx h6,h5,fun k hk=>qs (h6 k hk) hx.size⟩
 | el ks ty=>
   obtain⟨row,p,h1,h2,h3,h4,h5⟩:=h
   refine⟨row,p,h1,h2,h3,qs h4 hx.size,fun c u hu=> ?_⟩
   rw[World.cell?_of_block (a:=p.add c) (hx.block _ (by unfold Addr.add;split<;>exact h4))]
   exact h5 c u hu
 | rl ks ty L=>
   obtain⟨h1,h2,s,h3,h4,h5,h6⟩:=h
   exact⟨h1,h2,s,h3,h4,h5.mono hx h6,fun k hk=>qs (h6 k hk) hx.size⟩
 | _=>exact h
theorem kg {w':World} (hx:Ext w w'):∀{ks:List CK} {xs r:List Dt} {us:List Value},jx w ks xs us r->jx w' ks xs us r
 | [],_,_,_,h=>h
 | k::ks,xs,r,us,h=>by
   obtain⟨u,us',r',h1,h2,h3⟩:=h
   exact⟨u,us',r',h1,mF hx h2,kg hx h3⟩
def Lens (xs:List Dt):Prop:=∀L,Dt.l L∈xs->L.length<=maxLen
theorem Lens.tail {d:Dt} {xs:List Dt} (h:Lens (d::xs)):Lens xs:=fun L hL=>h L (cm _ hL)
def aan:CK->Bool
 | .sl ks _=>!cd ks evKs
 | _=>true
theorem acM {k:CK} {xs r:List Dt} (hv:aan k=true) (h:ckIn k xs r) (hl:Lens xs) (w:World):∃w' u,Ext w w'/\yk w' k xs u r/\Lens r:=by
 cases k with
 | int k=>obtain⟨x,rfl,hx⟩:=h;exact⟨w,_,.refl w,⟨x,rfl,rfl,hx⟩,hl.tail⟩
 | bool=>obtain⟨b,rfl⟩:=h;exact⟨w,_,.refl w,⟨b,rfl,rfl⟩,hl.tail⟩
 | fn g=>exact⟨w,_,.refl w,⟨h,rfl⟩,by rw[<-show xs=r from h];exact hl⟩
 | lit k z=>exact⟨w,_,.refl w,⟨h,rfl⟩,by rw[<-show xs=r from h];exact hl⟩
 | nf=>exact⟨w,_,.refl w,⟨h,rfl⟩,by rw[<-show xs=r from h];exact hl⟩
 | any=>exact⟨w,Go.undef,.refl w,h,by rw[<-show xs=r from h];exact hl⟩
 | el ks ty=>
   obtain⟨row,rfl,hrow⟩:=h
   refine⟨w.alloc (.cells (flat ks [row]).toArray ty),.pointer (some ⟨w.heap.size,0,none⟩),(Ext.refl w).alloc _,⟨row,_,rfl,rfl,hrow,ed w _,fun c u hu=> ?_⟩,hl.tail⟩
   have:(⟨w.heap.size,0,none⟩:Addr).add c=⟨w.heap.size,c,none⟩:=by unfold Addr.add;split<;>simp_all
   rw[this,je (heap_alloc_new w _)]
   exact hu
 | rl ks ty L=>
   obtain⟨rfl,hok⟩:=h
   obtain⟨_,hL,hp,hkd⟩:=zP (U:=⟨fun _=>0,fun _=>false,fun _=>[]⟩) hok
   have hT:∀w' s,RdRow w' ks.length s (flat ks L)->TRow w' ks s L:=fun w' s h=>by
    unfold TRow
    rw[hkd];exact h
   refine⟨w.alloc (.cells (flat ks L).toArray ty),(SV.mk (some ⟨w.heap.size,0,none⟩) L.length L.length []).v,(Ext.refl w).alloc _,⟨rfl,hok,⟨some ⟨w.heap.size,0,none⟩,L.length,L.length,[]⟩,rfl,rfl,hT _ _ ⟨cr hL.row,Nat.le_refl _,hL.len,fun h=>(by cases h),fun a ha i u hu=> ?_⟩,fun k hk=> ?_⟩,hl⟩
   ·cases ha
    have:(⟨w.heap.size,0,none⟩:Addr).add i=⟨w.heap.size,i,none⟩:=by unfold Addr.add;split<;>simp_all
    rw[this,je (heap_alloc_new w _)]
    exact hu
   ·have hk:=aL hk
    simp only[SV.v,Value.ownBlock,bk] at hk
    subst hk
    exact ed w _
 | sl ks ty=>
   obtain⟨L,rfl,hL⟩:=h
   have hlen:L.length<=maxLen:=hl L bD
   have hT:∀w' s,RdRow w' ks.length s (flat ks L)->TRow w' ks s L:=fun w' s h=>by
    unfold TRow
    rcases bM ks with⟨h1,_⟩ | ⟨_,h1⟩
    ·rw[h1] at hv;cases hv
    ·rw[h1];exact h
   refine⟨w.alloc (.cells (flat ks L).toArray ty),(SV.mk (some ⟨w.heap.size,0,none⟩) L.length L.length []).v,(Ext.refl w).alloc _,⟨L,⟨some ⟨w.heap.size,0,none⟩,L.length,L.length,[]⟩,rfl,rfl,rfl,hT _ _ ⟨cr hL,Nat.le_refl _,hlen,fun h=>(by cases h),fun a ha i u hu=> ?_⟩,⟨hL,hlen⟩,fun k hk=> ?_⟩,hl.tail⟩
   ·cases ha
    have:(⟨w.heap.size,0,none⟩:Addr).add i=⟨w.heap.size,i,none⟩:=by unfold Addr.add;split<;>simp_all
    rw[this,je (heap_alloc_new w _)]
    exact hu
   ·have hk:=aL hk
    simp only[SV.v,Value.ownBlock,bk] at hk
    subst hk
    exact ed w _
theorem qh:∀{ks:List CK} {xs r:List Dt},ks.all aan=true->adO ks xs r->Lens xs->∀(w:World),∃w' us,Ext w w'/\jx w' ks xs us r/\Lens r
 | [],xs,r,_,h,hl,w=>⟨w,[],.refl w,⟨h,rfl⟩,by rw[<-show xs=r from h];exact hl⟩
 | k::ks,xs,r,hv,h,hl,w=>by
   simp only[List.all_cons,thm0] at hv
   obtain⟨r',h1,h2⟩:=h
   obtain⟨w1,u,e1,g1,l1⟩:=acM hv.1 h1 hl w
   obtain⟨w2,us,e2,g2,l2⟩:=qh hv.2 h2 l1 w1
   exact⟨w2,u::us,e1.trans e2,⟨u,us,r',rfl,mF e2 g1,g2⟩,l2⟩
def nc (ss:List Sh):Bool:=ss.all fun s=>s.cks.all aan
theorem jg:∀{ss:List Sh} {xs:List Dt},nc ss=true->ajR ss xs->Lens xs->∀(w:World),∃w' vals,Ext w w'/\lZ w' ss xs vals
 | [],xs,_,h,_,w=>⟨w,[],.refl w,h,rfl⟩
 | .one k::ss,xs,hv,h,hl,w=>by
   simp only[nc,List.all_cons,thm0,Sh.cks,List.all_nil,Bool.and_true] at hv
   obtain⟨r,⟨r1,h1,h2⟩,h3⟩:=h
   cases h2
   obtain⟨w1,u,e1,g1,l1⟩:=acM hv.1 h1 hl w
   obtain⟨w2,us,e2,g2⟩:=jg (ss:=ss) hv.2 h3 l1 w1
   exact⟨w2,u::us,e1.trans e2,u,us,_,rfl,mF e2 g1,g2⟩
 | .agg ks::ss,xs,hv,h,hl,w=>by
   simp only[nc,List.all_cons,thm0,Sh.cks,List.all_nil,Bool.and_true] at hv
   obtain⟨r,h1,h3⟩:=h
   obtain⟨w1,u,e1,g1,l1⟩:=qh hv.1 h1 hl w
   obtain⟨w2,us,e2,g2⟩:=jg (ss:=ss) hv.2 h3 l1 w1
   exact⟨w2,_,e1.trans e2,u,us,_,rfl,kg e2 g1,g2⟩
 | .ptr ks::ss,xs,hv,h,hl,w=>by
   simp only[nc,List.all_cons,thm0,Sh.cks,List.all_nil,Bool.and_true] at hv
   obtain⟨r,h1,h3⟩:=h
   obtain⟨w1,u,e1,g1,l1⟩:=qh hv.1 h1 hl w
   have e2:Ext w1 (w1.alloc (.cells u.toArray 0)):=(Ext.refl w1).alloc _
   obtain⟨w3,us,e3,g3⟩:=jg (ss:=ss) hv.2 h3 l1 (w1.alloc (.cells u.toArray 0))
   have hlt:w1.heap.size<(w1.alloc (.cells u.toArray 0)).heap.size:=ed w1 _
   refine⟨w3,_,e1.trans (e2.trans e3),w1.heap.size,u,us,_,rfl,kg (e2.trans e3) g1,qs hlt e3.size,fun o v ho=> ?_,g3⟩
   rw[World.cell?_of_block (a:=⟨w1.heap.size,o,none⟩) (e3.block _ hlt),je (heap_alloc_new w1 _)]
   exact ho
theorem rH:∀{ss:List Sh} {xs:List Dt},(ss.all fun s=>s.cks.all fun k=>!k.isSl)=true->ajR ss xs->Lens xs
 | [],xs,_,h=>by cases h;intro L hL;cases hL
 | s::ss,xs,hk,h=>by
   simp only[List.all_cons,thm0] at hk
   obtain⟨r,h1,h2⟩:=h
   have ih:=rH hk.2 h2
   have key:∀(ks:List CK) (xs r:List Dt),ks.all (fun k=>!k.isSl)=true->adO ks xs r->Lens r->Lens xs:=by
    intro ks
    induction ks with
    | nil=>intro xs r _ h hl;cases h;exact hl
    | cons k ks ihk=>
      intro xs r hk h hl
      simp only[List.all_cons,thm0] at hk
      obtain⟨r',h1,h2⟩:=h
      have l2:=ihk r' r hk.2 h2 hl
      cases k with
      | int k=>
        obtain⟨x,rfl,_⟩:=h1
        intro L hL
        rcases List.mem_cons.1 hL with e | hL
        ·cases e
        ·exact l2 L hL
      | bool=>
        obtain⟨x,rfl⟩:=h1
        intro L hL
        rcases List.mem_cons.1 hL with e | hL
        ·cases e
        ·exact l2 L hL
      | sl ks ty=>simp[CK.isSl] at hk
      | rl ks ty L=>rw[h1.1];exact l2
      | el ks ty=>
        obtain⟨row,rfl,_⟩:=h1
        intro L hL
        rcases List.mem_cons.1 hL with e | hL
        ·cases e;simp[maxLen]
        ·exact l2 L hL
      | _=>rw[show xs=r' from h1];exact l2
   exact key _ xs r hk.1 h1 ih
theorem xw {ds:List Dt} {v0:Nat}:∀(ks:List CK) (n:Nat),fQ ks (ds.drop n)->eqs U ds v0 n ks->(∀(m:Nat) k,ks[m]? =some (.int k)->inK k (U.i (v0+(n+m)))=true)/\∀(m:Nat) k ty,ks[m]? =some (.sl k ty)->RowsIn k (U.l (v0+(n+m)))
 | [],n,_,_=>⟨fun m k h=>by simp at h,fun m k ty h=>by simp at h⟩
 | k::ks,n,h,he=>by
   cases hd:ds.drop n with
   | nil=>rw[hd] at h;cases k<;>exact h.elim
   | cons d r=>
     rw[hd] at h
     obtain⟨d1,d2⟩:=dK hd
     have main:fQ ks r/\eqs U ds v0 (n+1) ks/\(∀k',k=.int k'->inK k' (U.i (v0+n))=true)/\∀k' ty,k=.sl k' ty->RowsIn k' (U.l (v0+n)):=by
      cases k with
      | int k=>
        cases d with
        | z x=>exact⟨h.2,he.2,fun k' e=>(by cases e;rw[he.1,ajt d1];exact h.1),fun k' ty e=>(by cases e)⟩
        | l L=>exact h.elim
      | sl ks0 ty=>
        cases d with
        | z x=>exact h.elim
        | l L=>exact⟨h.2,he.2,fun k' e=>(by cases e),fun k' ty e=>(by cases e;rw[he.1,amZ d1];exact h.1)⟩
      | bool=>exact⟨h,he.2,fun k' e=>(by cases e),fun k' ty e=>(by cases e)⟩
      | _=>exact⟨h,he,fun k' e=>(by cases e),fun k' ty e=>(by cases e)⟩
     obtain⟨m1,m2,m3,m4⟩:=main
     obtain⟨i1,i2⟩:=xw ks (n+1) (by rw[d2];exact m1) m2
     refine⟨fun m k' hm=> ?_,fun m k' ty hm=> ?_⟩
     ·cases m with
      | zero=>simp only[bT,bk] at hm;exact m3 k' hm
      | succ m=>
        have:=i1 m k' (by simpa using hm)
        rwa [show n+(m+1)=n+1+m by omega]
     ·cases m with
      | zero=>simp only[bT,bk] at hm;exact m4 k' ty hm
      | succ m=>
        have:=i2 m k' ty (by simpa using hm)
        rwa [show n+(m+1)=n+1+m by omega]
def aoz (args res:List Sh) (pre:List Dt->Prop):Prop:=(args.all fun a=>a.cks.all fun k=>!k.isSl)=true\/((∀xs,pre xs->Lens xs)/\nc args=true)\/(res.all fun a=>a.cks.all fun k=>match k with | .int _=>false | .sl _ _=>false | _=>true)=true
theorem ajl {ss:List Sh} (h:(ss.all fun a=>a.cks.all fun k=>!k.isSl)=true):nc ss=true:=by
 unfold nc
 rw[thm7] at h ⊢
 intro s hs
 have:=h s hs
 rw[thm7] at this ⊢
 intro k hk
 have:=this k hk
 cases k<;>first | rfl | (simp[CK.isSl] at this)
theorem SmOk.of_calls {s:Sm} (hl:aoz s.args s.res (sp.pre s.key))
  (h:∀xs vals w,lZ w s.args xs vals->sp.pre s.key xs->sp.hw w->
   (∃v w',(callFunc s.f vals.toArray).run P w=.ok (.value v) w'/\RetOk s.res s.tup w w' (sp.F s.key xs) v)\/((callFunc s.f vals.toArray).run P w=.ok (.enter s.f vals.toArray) w/\Calls P s.f vals.toArray w fun e w'=>∃v,e=.returned v/\RetOk s.res s.tup w w' (sp.F s.key xs) v)) (hn:s.inp=none:=by rfl):SmOk P sp s:=by
 refine⟨fun _=>h,fun ks ty e=>(by rw[hn] at e;cases e),fun xs hin hpre U v0 he=> ?_⟩
 have hlen:(Lens xs/\nc s.args=true)\/((∀(n:Nat) k,s.ks[n]? =some (.int k)->inK k (U.i (v0+n))=true)/\(∀(n:Nat) ks ty,s.ks[n]? =some (.sl ks ty)->RowsIn ks (U.l (v0+n)))):=by
  rcases hl with hl | hl | hl
  ·exact .inl ⟨rH hl hin,ajl hl⟩
  ·exact .inl ⟨hl.1 xs hpre,hl.2⟩
  ·right
   have key:∀k∈s.ks,(match k with | .int _=>false | .sl _ _=>false | _=>true)=true:=fun k hk=>by
    obtain⟨a,ha,hk⟩:=List.mem_flatMap.1 hk
    exact thm7.1 (thm7.1 hl a ha) k hk
   exact⟨fun n k hk=>(by have:=key _ (fq hk);cases this),fun n ks ty hk=>(by have:=key _ (fq hk);cases this)⟩
 rcases hlen with⟨hlen,hev⟩ | hdone
 rotate_left
 ·exact hdone
 obtain⟨wi,hwi⟩:=sp.hi
 obtain⟨w,vals,hxi,hw⟩:=jg hev hin hlen wi
 have hres:fQ (s.res.flatMap (·.cks)) (sp.F s.key xs):=by
  rcases h xs vals w hw hpre (sp.hx _ _ hxi hwi) with⟨v,w',_,hr⟩ | ⟨_,hc⟩
  ·exact hr.rng
  ·obtain⟨e,w',_,⟨v,_,hr⟩,_⟩:=hc []
   exact hr.rng
 have he':eqs U (sp.F s.key xs) v0 0 (s.res.flatMap (·.cks)):=he
 have:=xw (U:=U) (ds:=sp.F s.key xs) (v0:=v0) (s.res.flatMap (·.cks)) 0 (by simpa using hres) he'
 simpa[Sm.ks] using this
def fD:List VK->(List Dt->Prop)->Prop
 | [],p=>p []
 | .int k::l,p=>∀x,inK k x=true->fD l fun r=>p (.z x::r)
 | .bool::l,p=>∀b:Bool,fD l fun r=>p (.z (b2i b)::r)
 | .list ks::l,p=>∀L,RowsIn ks L->fD l fun r=>p (.l L::r)
theorem fR:∀{l:List VK} {p:List Dt->Prop},fD l p->∀xs,okDs l xs->p xs
 | [],p,h,[],_=>h
 | .int k::l,p,h,.z x::r,ho=>fR (h x ho.1) r ho.2
 | .bool::l,p,h,.z x::r,ho=>by
   rcases ho.1 with rfl | rfl
   ·exact fR (h false) r ho.2
   ·exact fR (h true) r ho.2
 | .list ks::l,p,h,.l L::r,ho=>fR (h L ho.1) r ho.2
 | [],p,h,_::_,ho=>ho.elim
 | .int _::_,p,h,[],ho=>ho.elim
 | .bool::_,p,h,[],ho=>ho.elim
 | .list _::_,p,h,[],ho=>ho.elim
 | .int _::_,p,h,.l _::_,ho=>ho.1.elim
 | .bool::_,p,h,.l _::_,ho=>ho.1.elim
 | .list _::_,p,h,.z _::_,ho=>ho.1.elim
def amG:List Sm->Bool
 | []=>true
 | s::l=>(l.all fun x=>!Nat.beq x.key s.key)&&amG l
theorem aiX:∀{l:List Sm},amG l=true->∀s∈l,∀s'∈l,s.key=s'.key->s=s'
 | [],_,s,hs,_,_,_=>by cases hs
 | x::l,h,s,hs,s',hs',he=>by
   simp only[amG,thm0,thm7,Bool.not_eq_true'] at h
   rcases List.mem_cons.1 hs with rfl | hs<;>rcases List.mem_cons.1 hs' with rfl | hs'
   ·rfl
   ·have:=h.1 s' (by assumption)
    rw[he] at this
    simp at this
   ·have:=h.1 s (by assumption)
    rw[he] at this
    simp at this
   ·exact aiX h.2 s (by assumption) s' (by assumption) he
def adz (ss:List Sh):List V×List VK×List RowOb×List (List C):=iniA 0 0 0 ss
def avP (hints:List (Nat×List Pl)):Option E:=match az 999996 hints with
 | some [.gone l,.gone n,.gone c,.gone z]=>some (.eq (.get (.lw l) (.var n) c) (.lit z))
 | _=>none
def afF (hints:List (Nat×List Pl)) (k:Kw->Tr) (kw:Kw):Tr:=match avP hints with
 | some e=>decK e (fun b kw=>if b then k kw else .stuck 261) kw
 | none=>k kw
theorem afE {sp:Spec} {sm:List Sm} {U:Env} {G:Env->E->Prop} {I:Nat->List Dt->Prop} {hints:List (Nat×List Pl)} {k:Kw->Tr} {kw:Kw} (h:(afF hints k kw).holds sp G U I) (hg:Good sp sm U kw):∃kw',(k kw').holds sp G U I/\Good sp sm U kw'/\kw'.vk=kw.vk:=by
 unfold afF at h
 split at h
 ·obtain⟨kw',h1,h2,h3,_⟩:=ba _ _ _ h hg
  split at h1
  ·exact⟨kw',h1,h2,h3⟩
  ·exact h1.elim
 ·exact⟨kw,h,hg,rfl⟩
def asV (ty:List (Nat×TI)) (sm:List Sm) (fns:List (Nat×Func×List (Nat×List Pl)×List (Nat×List Pl))) (hints cuts:List (Nat×List Pl)) (fuel:Nat) (fn:Func) (args res:List Sh):Tr:=
 afF hints (funK ⟨ty,sm,res,(adz args).2.2.2,hints,cuts,fns⟩ fuel fn (adz args).1 ((adz args).2.2.1.map .row)) ⟨if(az 999997 hints).isSome then[(.tt true,true)] else[],[],(adz args).2.1,0⟩
def ap (ty:List (Nat×TI)) (sm:List Sm) (fns:List (Nat×Func×List (Nat×List Pl)×List (Nat×List Pl))) (hints cuts:List (Nat×List Pl)) (fuel:Nat) (fn:Func) (args res:List Sh) (tup:Bool) (vks:List VK) (t:Tr):Prop:=
 asV ty sm fns hints cuts fuel fn args res=t/\(adz args).2.1=vks/\(t.sc vks.length&&(shOk args&&((Nat.beq res.length 1 == !tup)&&(amG sm&&(!(fn.name== "runtime.NumGoroutine") &&!fn.body.isNone)))))=true
theorem fn0 {P:Program}:∀p∈([]:List (Nat×Func×List (Nat×List Pl)×List (Nat×List Pl))),P.funcs[p.1]? =some p.2.1:=fun _ h=>by cases h
theorem fnc {P:Program} {g:Nat} {fn:Func} {x:List (Nat×List Pl)×List (Nat×List Pl)} {l:List (Nat×Func×List (Nat×List Pl)×List (Nat×List Pl))} (h:P.funcs[g]? =some fn) (h':∀p∈l,P.funcs[p.1]? =some p.2.1):∀p∈(g,fn,x)::l,P.funcs[p.1]? =some p.2.1:=List.forall_mem_cons.2 ⟨h,h'⟩
theorem xX {sp':Spec} {f:Nat} {args res:List Sh} {tup:Bool} {ty:List (Nat×TI)} {sm:List Sm} {fns:List (Nat×Func×List (Nat×List Pl)×List (Nat×List Pl))} {hints cuts:List (Nat×List Pl)} {fuel:Nat} {fn:Func} {vks:List VK} {t:Tr} {F:List Dt->List Dt} {pre:List Dt->Prop} (hm:P.follows .mixedOrders=true) (hT:∀t i,(t,i)∈ty->TIok P t i) (hS:∀s∈sm,SmOk P sp' s) (hf:P.funcs[f]? =some fn)
  (hF':∀p∈fns,P.funcs[p.1]? =some p.2.1) (ht:ap ty sm fns hints cuts fuel fn args res tup vks t)
  (h:fD vks fun xs=>pre xs->∀U,varsD U 0 vks=xs->t.asks sp' (fun U e=>e.D U=F xs) U fun _ _=>False) (xs:List Dt) (vals:List Value) (w:World) (hw:lZ w args xs vals) (hpre:pre xs) (hhw:sp'.hw w):
  (callFunc f vals.toArray).run P w=.ok (.enter f vals.toArray) w/\Calls P f vals.toArray w fun e w'=>∃v,e=.returned v/\RetOk res tup w w' (F xs) v:=by
 obtain⟨ht1,hv1,ht2⟩:=ht
 simp only[thm0,db,Bool.not_eq_true'] at ht2
 obtain⟨hsc,hok,htup,hkeys,hname,hbody⟩:=ht2
 refine⟨dG hf hname hbody _ w,?_⟩
 obtain⟨svs,fks,hfl,hvl,harg⟩:=uH hok hw 0 0 0
 have hv2:(iniA 0 0 0 args).2.1=vks:=hv1
 rw[hv2] at harg
 let U0:Env:=Env.put ⟨fun _=>0,fun _=>false,fun _=>[]⟩ 0 xs
 have hv0:∀U',Ag vks.length U0 U'->varsD U' 0 vks=xs:=fun U' ha=>lu harg.ok (by rw[bt];exact ha)
 obtain⟨U',h1,h2⟩:=adK (G:=fun U e=>e.D U=F xs) t vks.length U0 (fun _ _=>False) hsc (fun U' ha=>fR h xs harg.ok hpre U' (hv0 U' ha))
 let j:J:=⟨fun _=>none,fun id=>svs[id]?,fun b=>fks[b]?,⟨fun _=>none,clz w⟩⟩
 obtain⟨a1,a2⟩:=harg.at' U' j (hv0 U' h1) (fun i s hi=>by rw[bt];exact hi)
 obtain⟨a3,a4⟩:=a1 (fun i k hi=>by rw[bt];exact hi)
 rw[<-ht1] at h2
 have hvk:Vk U' vks:=by
  have hd:=hv0 U' h1
  have ho:=harg.ok
  have key:∀(l:List VK) (n:Nat),okDs l (varsD U' n l)->(∀(i:Nat) k,l[i]? =some (.int k)->inK k (U'.i (n+i))=true)/\∀(i:Nat) ks,l[i]? =some (.list ks)->RowsIn ks (U'.l (n+i)):=by
   intro l
   induction l with
   | nil=>intro n _;exact⟨fun i k h=>by simp at h,fun i k h=>by simp at h⟩
   | cons x l ih=>
     intro n h
     obtain⟨i1,i2⟩:=ih (n+1) h.2
     refine⟨fun i k hk=> ?_,fun i ks hk=> ?_⟩
     ·cases i with
      | zero=>simp at hk;subst hk;exact h.1
      | succ i=>
        have:=i1 i k (by simpa using hk)
        rwa [show n+(i+1)=n+1+i by omega]
     ·cases i with
      | zero=>simp at hk;subst hk;exact h.1
      | succ i=>
        have:=i2 i ks (by simpa using hk)
        rwa [show n+(i+1)=n+1+i by omega]
  obtain⟨k1,k2⟩:=key _ 0 (by rw[hd];exact ho)
  exact⟨fun i k hk=>by have:=k1 i k hk;rwa [bt] at this,fun i k hk=>by have:=k2 i k hk;rwa [bt] at this⟩
 obtain⟨kw',h2,hg',_⟩:=afE h2 ⟨fun p hp=>(by
   split at hp
   ·rw[du.1 hp];rfl
   ·cases hp),by rw[hv1];exact hvk,fun p hp=>(by cases hp)⟩
 refine asl (hF:=hF') (U:=U') (j:=j) (kw:=kw') (cx:=⟨ty,sm,res,(adz args).2.2.2,hints,cuts,fns⟩) hm hT hS (aiX hkeys) hf a3 hvl.symm htup h2 hg' w ⟨fun b ob hb=> ?_,fun b hb=> ?_,fun b=>rfl,rfl,fun b s hs=> ?_,fun b cs hb=> ?_⟩ hhw
 ·rw[ji,thm4] at hb
  obtain⟨q,hq,rfl⟩:=hb
  have hlt:b<svs.length:=by rw[harg.len];exact(cf.1 hq).1
  obtain⟨g1,g2⟩:=a2 b svs[b] q (thm6 hlt) hq
  exact⟨q,svs[b],rfl,g1,thm6 hlt,g2 _⟩
 ·rw[List.length_map] at hb
  exact bI (by rw[harg.len];exact hb)
 ·exact harg.zz s (fq hs)
 ·exact a4 b cs hb
theorem sm0 {sp:Spec}:∀s∈([]:List Sm),SmOk P sp s:=fun _ h=>by cases h
theorem smc {sp:Spec} {s:Sm} {l:List Sm} (h:SmOk P sp s) (h':∀s∈l,SmOk P sp s):∀x∈s::l,SmOk P sp x:=List.forall_mem_cons.2 ⟨h,h'⟩
theorem aq {sp sp':Spec} {s:Sm} {ty:List (Nat×TI)} {sm:List Sm} {fns:List (Nat×Func×List (Nat×List Pl)×List (Nat×List Pl))} {hints cuts:List (Nat×List Pl)} {fuel:Nat} {fn:Func} {vks:List VK} {t:Tr} {F:List Dt->List Dt} {pre:List Dt->Prop} (hF:sp.F s.key=F) (hP:sp.pre s.key=pre) (hm:P.follows .mixedOrders=true) (hT:∀t i,(t,i)∈ty->TIok P t i) (hS:∀s∈sm,SmOk P sp' s) (hf:P.funcs[s.f]? =some fn)
  (hF':∀p∈fns,P.funcs[p.1]? =some p.2.1) (ht:ap ty sm fns hints cuts fuel fn s.args s.res s.tup vks t) (hl:aoz s.args s.res pre)
  (h:fD vks fun xs=>pre xs->∀U,varsD U 0 vks=xs->t.asks sp' (fun U e=>e.D U=F xs) U fun _ _=>False) (hn:s.inp=none:=by rfl) (hW:∀w,sp.hw w->sp'.hw w:=by exact fun _ _=>trivial):SmOk P sp s:=
 SmOk.of_calls (by rw[hP];exact hl) (fun xs vals w hw hpre hhw=>.inr (by rw[hF];rw[hP] at hpre;exact xX hm hT hS hf hF' ht h xs vals w hw hpre (hW w hhw))) hn
theorem SmOk.pureW {s:Sm} {F:List Dt->List Dt} (hF:sp.F s.key=F) (hl:(s.args.all fun a=>a.cks.all fun k=>!k.isSl)=true) (hr:((s.res.flatMap (·.cks)).filter CK.isSl)=[])
  (h:∀xs vals w,lZ w s.args xs vals->sp.hw w->∃X,((callFunc s.f vals.toArray).run P w=.ok (.value X) w\/((callFunc s.f vals.toArray).run P w=.ok (.enter s.f vals.toArray) w/\Calls P s.f vals.toArray w fun e w'=>e=.returned X/\Ext w w'))/\fQ (s.res.flatMap (·.cks)) (F xs)/\∀(U:Env) v0 nid j,eqs U (F xs) v0 0 (s.res.flatMap (·.cks))->(fP s.res s.tup v0 nid).den U j=some X) (hn:s.inp=none:=by rfl):SmOk P sp s:=by
 refine SmOk.of_calls (.inl hl) (fun xs vals w hw _ hh=> ?_) hn
 obtain⟨X,h1,h2,h3⟩:=h xs vals w hw hh
 rw[hF]
 have ret:∀w',Ext w w'->RetOk s.res s.tup w w' (F xs) X:=fun w' hx=>
  ⟨hx,h2,[],by rw[hr];rfl,fun U v0 nid j he _=>h3 U v0 nid j he,fun U v0 _ i u r hu=>by simp at hu,fun i i' u u' k hu=>(by simp at hu),fun u hu=>(by cases hu)⟩
 rcases h1 with h1 | ⟨h1,hc⟩
 ·exact .inl ⟨X,w,h1,ret w (.refl w)⟩
 ·exact .inr ⟨h1,hc.mono fun e w' he=>⟨X,he.1,ret w' he.2⟩⟩
theorem SmOk.pure {s:Sm} {F:List Dt->List Dt} (hF:sp.F s.key=F) (hl:(s.args.all fun a=>a.cks.all fun k=>!k.isSl)=true) (hr:((s.res.flatMap (·.cks)).filter CK.isSl)=[])
  (h:∀xs vals w,lZ w s.args xs vals->∃X,((callFunc s.f vals.toArray).run P w=.ok (.value X) w\/((callFunc s.f vals.toArray).run P w=.ok (.enter s.f vals.toArray) w/\Calls P s.f vals.toArray w fun e w'=>e=.returned X/\Ext w w'))/\fQ (s.res.flatMap (·.cks)) (F xs)/\∀(U:Env) v0 nid j,eqs U (F xs) v0 0 (s.res.flatMap (·.cks))->(fP s.res s.tup v0 nid).den U j=some X) (hn:s.inp=none:=by rfl):SmOk P sp s:=
 SmOk.pureW hF hl hr (fun xs vals w hw _=>h xs vals w hw) hn
def iO:Value->Bool
 | .int k z=>inK k z
 | _=>true
def iD:Value->Bool
 | .agg cs=>cs.toList.all iO
 | v=>iO v
def jC:Value->Bool
 | .tuple vs=>vs.toList.all iD
 | v=>iD v
theorem RetOk.says {w w':World} {v:Value} (h:RetOk [.one .bool] false w w' [.z 1] v):v=.bool true:=by
 obtain⟨svs,_,h1,_⟩:=h.svs
 have:=h1 ⟨fun _=>0,fun _=>true,fun _=>[]⟩ 0 0 ⟨fun _=>none,fun id=>svs[id]?,fun _=>none,Gh.zero⟩ ⟨rfl,trivial⟩ (fun i u hi=>by rw[bt];exact hi)
 cases this
 rfl
@[simp] theorem b2i_eq_iff {a b:Bool}:(b2i a=b2i b)=(a=b):=propext ⟨kj,fun h=>by rw[h]⟩
@[simp] theorem b2i_one {a:Bool}:(b2i a==1)=a:=eQ a
theorem zb {a b:Bool} (h:a=b):[Dt.z (b2i a)]=[Dt.z (b2i b)]:=by rw[h]
def E.vs (n:Nat):Nat->E->E
 | 0,t=>t
 | k+1,t=>.cons (.var n) (E.vs (n+1) k t)
def S1:=And.intro (@List.getElem?_cons_zero Dt) (And.intro (@List.getElem?_cons_succ Dt) (And.intro (@List.cons_append Dt) (And.intro (@List.nil_append Dt) (And.intro (@List.cons_append CK) (And.intro (@List.nil_append CK) (And.intro bt (And.intro Nat.add_zero (And.intro and_true (And.intro true_and @b2i_one)))))))))
def kdN:Nat->Option IntKind
 | 0=>some .i8
 | 1=>some .u64
 | 2=>some .i64
 | 3=>some .u8
 | 4=>some .i32
 | 5=>some .u32
 | _=>none
def kN:Nat->Nat->List CE
 | 0,_=>[]
 | n+1,m=>kdN (m % 10)::kN n (m / 10)
def zN:Nat->Nat->List C
 | 0,_=>[]
 | n+1,m=>(match kdN (m % 10) with
   | some k=>.int k (.lit 0)
   | none=>.bool (.tt false))::zN n (m / 10)
def E.zs:List Int->E->E
 | [],t=>t
 | z::l,t=>.cons (.lit z) (E.zs l t)
def E.zr:Nat->E->E
 | 0,t=>t
 | n+1,t=>.cons (.lit 0) (E.zr n t)
def E.rgs (d x:E):Nat->Nat->E->E->E->E
 | _,_,_,.nil,t=>t
 | n+1,r,.nil,o,t=>E.rgs d x n (r+1) x o t
 | n+1,r,.cons y ys,.cons o os,t=>.cons (.ite (.eq d (.lit r)) y o) (E.rgs d x n r ys os t)
 | _,_,_,_,t=>t
def E.rg (d x o t:E):E:=E.rgs d x 120 0 x o t
def E.pv (n:Nat):List Int->E->E
 | [],t=>t
 | z::l,t=>.and (.eq (.var n) (.lit z)) (E.pv (n-1) l t)
def E.gs (l i:E) (c:Nat):Nat->E->E
 | 0,t=>t
 | k+1,t=>.cons (.get l i c) (E.gs l i (c+1) k t)
def E.ins (l i t:E):E:=E.gs l i 0 4 (.cb (.getb l i 4) (E.gs l i 5 4 t))
def E.sv (a:Nat):Nat->E
 | 0=>.nil
 | k+1=>.cons (.var a) (E.sv (a+9) k)
def E.tn (i:E) (a:Nat):Nat->E->E
 | 0,t=>t
 | k+1,t=>.cons (.nth i (E.sv a 11)) (E.tn i (a+1) k t)
def E.sg (l i:E) (c:Nat):Nat->E
 | 0=>.nil
 | k+1=>.cons (.get l i c) (E.sg l i (c+9) k)
def E.tg (e l i:E) (c:Nat):Nat->E->E
 | 0,t=>t
 | k+1,t=>.cons (.nth e (E.sg l i c 11)) (E.tg e l i (c+1) k t)
def E.iv (c:E) (a b:Nat):Nat->E->E
 | 0,t=>t
 | k+1,t=>.cons (.ite c (.var a) (.var b)) (E.iv c (a+1) (b+1) k t)
end
def gS0:=And.intro @Dt.z.injEq (And.intro @Dt.l.injEq @b2i_eq_iff)
def tiq2:TI:=⟨false,1,[.int .i64 (.lit 0)],[],none,some .i64,false,false,none,8,false,none,false,0⟩
def fF:TI:=⟨false,1,[.int .u64 (.lit 0)],[],none,some .u64,false,false,none,8,false,none,false,0⟩
def gO:TI:=⟨true,4,(zN 4 2211),[(0,42),(1,42),(2,2),(3,2)],none,none,false,false,none,32,false,none,false,0⟩
def afw:TI:=⟨true,2,[.int .u64 (.lit 0),.int .u64 (.lit 0)],[(0,42),(1,42)],none,none,false,false,none,16,false,none,false,0⟩
def afv:TI:=⟨true,2,[.int .i64 (.lit 0),.int .i64 (.lit 0)],[(0,2),(1,2)],none,none,false,false,none,16,false,none,false,0⟩
def tiq3:TI:=⟨false,1,[.int .i64 (.lit 0)],[],none,some .i64,false,false,none,8,false,none,false,0⟩
def tiq4:TI:=⟨false,1,[.bool (.tt false)],[],none,none,false,true,none,1,false,none,false,0⟩
def gP:TI:=⟨false,1,[.int .i8 (.lit 0)],[],none,some .i8,false,false,none,1,false,none,false,0⟩
def vP:TI:=⟨false,1,[.int .u64 (.lit 0)],[],none,some .u64,false,false,none,8,false,none,false,0⟩
def kt:TI:=⟨true,2,[.int .u64 (.lit 0),.int .u64 (.lit 0)],[(0,42),(1,42)],none,none,false,false,none,16,false,none,false,0⟩
def akp:TI:=⟨true,6,(zN 6 112211),[(0,44),(4,46)],none,none,false,false,none,48,false,none,false,0⟩
def ac1:TI:=⟨false,1,[.int .i64 (.lit 0)],[],none,some .i64,false,false,none,8,false,none,false,0⟩
def dy:TI:=⟨true,6,(zN 6 112211),[(0,44),(4,46)],none,none,true,false,none,48,false,none,false,0⟩
def qr:TI:=⟨true,9,(zN 9 221122110),[(0,37),(1,48),(7,3),(8,3)],none,none,true,false,none,72,false,none,false,0⟩
def si:TI:=⟨true,99,(zN 99 221122110221122110221122110221122110221122110221122110221122110221122110221122110221122110221122110),[],some (11,50),none,false,false,none,792,false,none,false,0⟩
def sf:TI:=⟨true,72,(zN 72 221122110221122110221122110221122110221122110221122110221122110221122110),[],some (8,50),none,false,false,none,576,false,none,false,0⟩
def ac0:TI:=⟨true,171,(zN 171 221122110221122110221122110221122110221122110221122110221122110221122110221122110221122110221122110221122110221122110221122110221122110221122110221122110221122110221122110),[(0,51),(99,52)],none,none,false,false,none,1368,false,none,false,0⟩
def yG:TI:=⟨true,9,(zN 9 220090000),[(0,37),(1,37),(2,37),(3,37),(4,4),(5,37),(6,37),(7,3),(8,3)],none,none,true,false,none,24,false,none,false,0⟩
def ac3:TI:=⟨false,1,[.nsl],[],none,none,false,false,some 39,24,false,none,false,0⟩
def ac2:TI:=⟨true,2,[.int .i64 (.lit 0),.nsl],[(0,3),(1,22)],none,none,false,false,none,32,false,none,false,0⟩
def asY:TI:=⟨false,1,[.nsl],[],none,none,false,false,some 3,24,false,none,false,0⟩
def anp:TI:=⟨false,1,[.int .u32 (.lit 0)],[],none,some .u32,false,false,none,4,false,none,false,0⟩
def apF:TI:=⟨false,1,[.nsl],[],none,none,false,false,some 4,24,false,none,false,0⟩
def apE:TI:=⟨false,1,[.nsl],[],none,none,false,false,some 54,24,false,none,false,0⟩
def apD:TI:=⟨true,2,[.nsl,.nsl],[(0,30),(1,31)],none,none,false,false,none,48,false,none,false,0⟩
def se:TI:=⟨true,171,(zN 171 221122110221122110221122110221122110221122110221122110221122110221122110221122110221122110221122110221122110221122110221122110221122110221122110221122110221122110221122110),[(0,51),(99,52)],none,none,true,false,none,1368,false,none,false,0⟩
def apC:TI:=⟨true,172,(zN 172 2211221102211221102211221102211221102211221102211221102211221102211221102211221102211221102211221102211221102211221102211221102211221102211221102211221102211221102211221102),[(0,3),(1,54)],none,none,false,false,none,1376,false,none,false,0⟩
def ans:TI:=⟨false,1,[.np],[],none,none,false,false,none,8,false,none,false,1⟩
def anr:TI:=⟨false,1,[.nsl],[],none,none,false,false,some 50,24,false,none,false,0⟩
def anq:TI:=⟨false,1,[.nf],[],none,none,false,false,none,8,true,none,false,0⟩
def asZ:TI:=⟨false,1,[.nsl],[],none,none,false,false,some 66,24,false,none,false,0⟩
def simQ:=And.intro @Tr.asks.eq_1 (And.intro @Tr.asks.eq_2 (And.intro @Tr.asks.eq_3 (And.intro @Tr.asks.eq_4 (And.intro @Tr.asks.eq_5 (And.intro @Tr.asks.eq_6 (And.intro @Tr.asks.eq_7 (And.intro @Tr.asks.eq_8 (And.intro @Tr.asks.eq_9 (And.intro @Tr.asks.eq_10 (And.intro @Tr.asks.eq_11 (And.intro @okDs.eq_1 (And.intro @okDs.eq_2 (And.intro @okDs.eq_3 (And.intro @okD.eq_1 (And.intro @okD.eq_2 (And.intro @okD.eq_3 (And.intro @okD.eq_4 (And.intro @eqs.eq_1 (And.intro @eqs.eq_2 (And.intro @eqs.eq_3 (And.intro @eqs.eq_4 (And.intro @eqs.eq_5 (And.intro @E.I.eq_1 (And.intro @E.I.eq_2 (And.intro @E.I.eq_3 (And.intro @E.I.eq_4 (And.intro @E.I.eq_5 (And.intro @E.I.eq_6 (And.intro @E.I.eq_7 (And.intro @E.I.eq_8 (And.intro @E.I.eq_9 (And.intro @E.I.eq_10 (And.intro @E.I.eq_11 (And.intro @E.I.eq_12 (And.intro @E.B.eq_1 (And.intro @E.B.eq_2 (And.intro @E.B.eq_3 (And.intro @E.B.eq_4 (And.intro @E.B.eq_5 (And.intro @E.B.eq_6 (And.intro @E.B.eq_7 (And.intro @E.B.eq_8 (And.intro @E.B.eq_9 (And.intro @E.B.eq_10 (And.intro @E.L.eq_1 (And.intro @E.L.eq_2 (And.intro @E.L.eq_3 (And.intro @E.R.eq_1 (And.intro @E.R.eq_2 (And.intro @E.R.eq_3 (And.intro @E.R.eq_4 (And.intro @E.R.eq_5 (And.intro @E.R.eq_6 (And.intro @E.R.eq_7 (And.intro @E.R.eq_8 (And.intro @E.R.eq_9 (And.intro @E.R.eq_10 (And.intro @E.D.eq_1 (And.intro @E.D.eq_2 (And.intro @E.D.eq_3 (And.intro @E.D.eq_4 (And.intro @E.vs.eq_1 (And.intro @E.vs.eq_2 (And.intro @E.gs.eq_1 (And.intro @E.gs.eq_2 (And.intro @E.ins.eq_1 (And.intro @E.sv.eq_1 (And.intro @E.sv.eq_2 (And.intro @E.tn.eq_1 (And.intro @E.tn.eq_2 (And.intro @E.iv.eq_1 (And.intro @E.iv.eq_2 (And.intro @E.zs.eq_1 (And.intro @E.zs.eq_2 (And.intro @E.zr.eq_1 (And.intro @E.zr.eq_2 (And.intro @E.sg.eq_1 (And.intro @E.sg.eq_2 (And.intro @E.tg.eq_1 (And.intro @E.tg.eq_2 (And.intro @E.rg.eq_1 (And.intro @E.rgs.eq_1 (And.intro @E.rgs.eq_2 (And.intro @E.rgs.eq_3 (And.intro @E.rgs.eq_4 (And.intro @E.pv.eq_1 (And.intro @E.pv.eq_2 (And.intro @dI.eq_1 (And.intro @dB.eq_1 (And.intro @dL.eq_1 (And.intro @varD.eq_1 (And.intro @varD.eq_2 (And.intro @varD.eq_3 (And.intro @varsD.eq_1 (@varsD.eq_2)))))))))))))))))))))))))))))))))))))))))))))))))))))))))))))))))))))))))))))))))))))))))))))))
def tpr:Nat->Nat->List Pl
 | _,0=>[]
 | a,n+1=>.top a::tpr (a+1) n
def tps:List (Nat×Nat)->List Pl
 | []=>[]
 | x::l=>tpr x.1 x.2++tps l
end Go.Proofs.YtfkhblmeioiciaaGreatDoor
