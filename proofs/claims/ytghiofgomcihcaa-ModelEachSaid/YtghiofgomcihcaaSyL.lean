import Derived.Test.YtghiofgomcihcaaSyK
import Derived.LoopN
set_option linter.unusedVariables false
set_option linter.unusedSimpArgs false
namespace Go.Proofs.Ytghiofgomcihcaa
open Go.RowKit
def E.sc (n:Nat):E→Bool
 | .lit _ | .nil | .tt _ | .lnil=>true
 | .var i | .bvar i | .lvar i=>Nat.blt i n
 | .bin _ _ a b | .nth a b | .leq a b | .mix a b | .mn a b | .mx a b | .cons a b | .consb a b | .consl a b | .lt a b | .eq a b | .and a b | .beq a b | .lapp a b | .lcat a b | .lrep a b | .ltake a b | .ldrop a b=>a.sc n&&b.sc n
 | .get a i _ | .getb a i _=>a.sc n&&i.sc n
 | .lset a i _ x | .lsetb a i _ x | .lput a i x | .ite a i x=>a.sc n&&(i.sc n&&x.sc n)
 | .conv _ a | .not a | .len a=>a.sc n
theorem E.sc_eq {n:Nat} {ρ ρ':Env} (h:Ag n ρ ρ'):∀e:E,e.sc n=true→e.I ρ=e.I ρ'∧e.B ρ=e.B ρ'∧e.L ρ=e.L ρ'∧e.R ρ=e.R ρ'∧e.D ρ=e.D ρ':=by
 intro e
 induction e<;>intro hs<;>simp only[E.sc,Bool.and_eq_true] at hs
 case var i=>exact⟨(h i (by simpa[Nat.blt_eq] using hs)).1,rfl,rfl,rfl,rfl⟩
 case bvar i=>exact⟨rfl,(h i (by simpa[Nat.blt_eq] using hs)).2.1,rfl,rfl,rfl⟩
 case lvar i=>exact⟨rfl,rfl,rfl,(h i (by simpa[Nat.blt_eq] using hs)).2.2,rfl⟩
 case lit=>exact⟨rfl,rfl,rfl,rfl,rfl⟩
 case nil=>exact⟨rfl,rfl,rfl,rfl,rfl⟩
 case lnil=>exact⟨rfl,rfl,rfl,rfl,rfl⟩
 case tt=>exact⟨rfl,rfl,rfl,rfl,rfl⟩
 case conv ih=>simp[E.I,E.B,E.L,E.R,E.D,ih hs]
 case not ih=>simp[E.I,E.B,E.L,E.R,E.D,ih hs]
 case len ih=>simp[E.I,E.B,E.L,E.R,E.D,ih hs]
 case lset ih1 ih2 ih3=>simp[E.I,E.B,E.L,E.R,E.D,ih1 hs.1,ih2 hs.2.1,ih3 hs.2.2]
 case ite ih1 ih2 ih3=>simp[E.I,E.B,E.L,E.R,E.D,ih1 hs.1,ih2 hs.2.1,ih3 hs.2.2]
 case lput ih1 ih2 ih3=>simp[E.I,E.B,E.L,E.R,E.D,ih1 hs.1,ih2 hs.2.1,ih3 hs.2.2]
 case lsetb ih1 ih2 ih3=>simp[E.I,E.B,E.L,E.R,E.D,ih1 hs.1,ih2 hs.2.1,ih3 hs.2.2]
 all_goals
  rename_i ih1 ih2
  simp[E.I,E.B,E.L,E.R,E.D,ih1 hs.1,ih2 hs.2]
def argE:List VK→List E→E
 | .int _::ks,e::es=>.cons e (argE ks es)
 | .bool::ks,e::es=>.consb e (argE ks es)
 | .list _::ks,e::es=>.consl e (argE ks es)
 | _,_=>.nil
structure Giv (v0:Nat) (vks:List VK) (θ:List E) (ρ ρ':Env):Prop where
 ag:Ag v0 ρ ρ'
 i:∀m k t,vks[m]? =some (.int k)→θ[m]? =some t→ρ'.i (v0+m)=t.I ρ
 b:∀m t,vks[m]? =some .bool→θ[m]? =some t→ρ'.b (v0+m)=t.B ρ
 l:∀m ks t,vks[m]? =some (.list ks)→θ[m]? =some t→ρ'.l (v0+m)=t.R ρ
theorem qe {a b:Bool} (h:b2i a=b2i b):a=b:=by cases a<;>cases b<;>first | rfl | cases h
theorem rQ {ρ ρ':Env}:∀(vks:List VK) (θ:List E) (n:Nat),θ.length=vks.length→ah ρ' n vks=(argE vks θ).D ρ→∀m t,θ[m]? =some t→(∀k,vks[m]? =some (.int k)→ρ'.i (n+m)=t.I ρ)∧(vks[m]? =some .bool→ρ'.b (n+m)=t.B ρ)∧(∀ks,vks[m]? =some (.list ks)→ρ'.l (n+m)=t.R ρ)
 | [],θ,n,hl,h,m,t,ht=>⟨fun k hk=>by simp at hk,fun hk=>by simp at hk,fun k hk=>by simp at hk⟩
 | vk::vks,[],n,hl,h,m,t,ht=>by cases hl
 | vk::vks,e::θ,n,hl,h,m,t,ht=>by
   have hl':θ.length=vks.length:=by simpa using hl
   have step:∀d,varD ρ' n vk=d→(argE (vk::vks) (e::θ)).D ρ=d::(argE vks θ).D ρ→ah ρ' (n+1) vks=(argE vks θ).D ρ:=by
    intro d _ h2
    have h3:varD ρ' n vk::ah ρ' (n+1) vks=(argE (vk::vks) (e::θ)).D ρ:=h
    rw[h2] at h3
    exact(List.cons.inj h3).2
   cases m with
   | zero=>
     simp only[List.getElem?_cons_zero,Option.some.injEq,Nat.add_zero] at ht ⊢
     subst ht
     have h0:varD ρ' n vk::ah ρ' (n+1) vks=(argE (vk::vks) (e::θ)).D ρ:=h
     refine⟨fun k hk=> ?_,fun hk=> ?_,fun ks hk=> ?_⟩
     ·subst hk
      simp only[argE,E.D,varD,List.cons.injEq,Dt.z.injEq] at h0
      exact h0.1
     ·subst hk
      simp only[argE,E.D,varD,List.cons.injEq,Dt.z.injEq] at h0
      exact qe h0.1
     ·subst hk
      simp only[argE,E.D,varD,List.cons.injEq,Dt.l.injEq] at h0
      exact h0.1
   | succ m=>
     have h1:ah ρ' (n+1) vks=(argE vks θ).D ρ:=by
      have h0:varD ρ' n vk::ah ρ' (n+1) vks=(argE (vk::vks) (e::θ)).D ρ:=h
      cases vk<;>simp only[argE,E.D,List.cons.injEq] at h0<;>exact h0.2
     have:=rQ vks θ (n+1) hl' h1 m t (by simpa using ht)
     simpa[Nat.add_assoc,Nat.add_comm 1 m] using this
theorem acC {ρ ρ':Env} {v0:Nat} {vks:List VK} {θ:List E} (hag:Ag v0 ρ ρ') (hl:θ.length=vks.length) (h:ah ρ' v0 vks=(argE vks θ).D ρ):Giv v0 vks θ ρ ρ':=
 ⟨hag,fun m k t hk ht=>(rQ vks θ v0 hl h m t ht).1 k hk,fun m t hk ht=>(rQ vks θ v0 hl h m t ht).2.1 hk,fun m ks t hk ht=>(rQ vks θ v0 hl h m t ht).2.2 ks hk⟩
def mU (v:Nat):List CE→List C×List VK
 | []=>([],[])
 | some k::ks=>(.int k (.var v)::(mU (v+1) ks).1,.int k::(mU (v+1) ks).2)
 | none::ks=>(.bool (.bvar v)::(mU (v+1) ks).1,.bool::(mU (v+1) ks).2)
def qy (heap:List Ob) (b o:Nat) (c:C):Option (List Ob):=match heap[b]? with
 | some (.box cs ty)=>if o<cs.length then some (heap.set b (.box (cs.set o c) ty)) else none
 | _=>none
def xY (heap:List Ob) (b o:Nat) (l:List C):Option (List Ob):=match heap[b]? with
 | some (.box cs ty)=>if o+l.length≤cs.length then some (heap.set b (.box (cs.take o++(l++cs.drop (o+l.length))) ty)) else none
 | _=>none
def TM.only (m:TM) (ks:List Nat):TM:=⟨ks.foldl (fun T k=>T.set (Nat.log2 m.n+1) k (m.cur.get k)) (.leaf .top),m.n,m.old⟩
def absP (v0:Nat) (p:Pl) (x:St×List VK):Option (St×List VK):=
 let v:=v0+x.2.length
 match p with
 | .top t=>if Nat.blt t x.1.n then some ({x.1 with tmps:=x.1.tmps.set t .top},x.2) else none
 | .tmpI t k=>if Nat.blt t x.1.n then some ({x.1 with tmps:=x.1.tmps.set t (.one (.int k (.var v)))},x.2++[.int k]) else none
 | .tmpB t=>if Nat.blt t x.1.n then some ({x.1 with tmps:=x.1.tmps.set t (.one (.bool (.bvar v)))},x.2++[.bool]) else none
 | .tmpA t ks=>if Nat.blt t x.1.n then some ({x.1 with tmps:=x.1.tmps.set t (.agg (mU v ks).1)},x.2++(mU v ks).2) else none
 | .tmpS t ks ty=>if Nat.blt t x.1.n then some (⟨x.1.tmps.set t (.one (.sl x.1.heap.length)),x.1.heap++[.row ⟨ks,ty,.lvar v,true,kdOf ks⟩]⟩,x.2++[.list ks]) else none
 | .celI b o k=>(qy x.1.heap b o (.int k (.var v))).map fun h=>(⟨x.1.tmps,h⟩,x.2++[.int k])
 | .celB b o=>(qy x.1.heap b o (.bool (.bvar v))).map fun h=>(⟨x.1.tmps,h⟩,x.2++[.bool])
 | .only ks=>some (⟨x.1.tmps.only ks,x.1.heap⟩,x.2)
 | .cels b o ks=>(xY x.1.heap b o (mU v ks).1).map fun h=>(⟨x.1.tmps,h⟩,x.2++(mU v ks).2)
 | .celS b o ks ty=>(qy x.1.heap b o (.sl x.1.heap.length)).map fun h=>(⟨x.1.tmps,h++[.row ⟨ks,ty,.lvar v,true,kdOf ks⟩]⟩,x.2++[.list ks])
 | .celV b o ks ty=>(qy x.1.heap b o (.sl x.1.heap.length)).map fun h=>(⟨x.1.tmps,h++[.row ⟨ks,ty,.lvar v,false,kdOf ks⟩]⟩,x.2++[.list ks])
 | .row id=>match x.1.heap[id]? with
   | some (.row r)=>some (⟨x.1.tmps,x.1.heap.set id (.row {r with l:=.lvar v})⟩,x.2++[.list r.ks])
   | _=>none
 | .gone id=>if id<x.1.heap.length then some (⟨x.1.tmps,x.1.heap.set id .gone⟩,x.2) else none
 | .ask=>none
def absL (v0:Nat):List Pl→St×List VK→Option (St×List VK)
 | [],x=>some x
 | p::l,x=>(absP v0 p x).bind (absL v0 l)
def sk:List CE→List C→Option (List E)
 | [],[]=>some []
 | some k::ks,.int k' e::cs=>if aR k k' then(sk ks cs).map (e::·) else none
 | none::ks,.bool e::cs=>(sk ks cs).map (e::·)
 | _,_=>none
def vX (heap:List Ob):C→Option (E×Option Nat)
 | .sl id=>(rwS heap id).map fun r=>(r.l,some id)
 | .nsl=>some (.lnil,none)
 | _=>none
def argP (p:Pl) (s:St):Option (List E×List (Option Nat)):=
 match p with
 | .top _=>some ([],[])
 | .tmpI t _=>match s.tmps.get? t with | some (.one (.int _ e))=>some ([e],[]) | _=>none
 | .tmpB t=>match s.tmps.get? t with | some (.one (.bool e))=>some ([e],[]) | _=>none
 | .tmpA t ks=>match s.tmps.get? t with | some (.agg cs)=>(sk ks cs).map fun l=>(l,[]) | _=>none
 | .tmpS t _ _=>match s.tmps.get? t with | some (.one c)=>(vX s.heap c).map fun x=>([x.1],[x.2]) | _=>none
 | .celI b o _=>match ldS s.heap b o with | some (.int _ e)=>some ([e],[]) | _=>none
 | .celB b o=>match ldS s.heap b o with | some (.bool e)=>some ([e],[]) | _=>none
 | .only _=>some ([],[])
 | .cels b o ks=>match s.heap[b]? with | some (.box cs _)=>((seg cs o ks.length).bind (sk ks)).map fun l=>(l,[]) | _=>none
 | .celS b o _ _=>match ldS s.heap b o with | some c=>(vX s.heap c).map fun x=>([x.1],[x.2]) | none=>none
 | .celV b o _ _=>match ldS s.heap b o with | some c=>(vX s.heap c).map fun x=>([x.1],[x.2]) | none=>none
 | .row id=>(rwS s.heap id).map fun r=>([r.l],[])
 | .gone _=>some ([],[])
 | .ask=>none
def argL:List Pl→St→Option (List E×List (Option Nat))
 | [],_=>some ([],[])
 | p::l,s=>match argP p s,argL l s with
   | some x,some y=>some (x.1++y.1,x.2++y.2)
   | _,_=>none
structure Mt where
 v0:Nat
 vks:List VK
 θ:List E
 h0:Nat
 ex:List (Option Nat)
 hd:List Ob
def Mt.sig (m:Mt) (a:Nat):Option (Option Nat):=match m.hd[a]? with
 | some (.box _ _) | some (.row _) | some (.loop _)=>if a<m.h0 then some (some a) else m.ex[a-m.h0]?
 | _=>none
def Mt.okI (m:Mt) (e e':E):Bool:=
 match e with
 | .var n=>if m.v0≤n then(match m.vks[n-m.v0]?,m.θ[n-m.v0]? with | some (.int _),some t=>t.same e' | _,_=>false) else(match e' with | .var n'=>Nat.beq n n' | _=>false)
 | e=>e.same e'&&e.sc m.v0
def Mt.okB (m:Mt) (e e':E):Bool:=
 match e with
 | .bvar n=>if m.v0≤n then(match m.vks[n-m.v0]?,m.θ[n-m.v0]? with | some .bool,some t=>t.same e' | _,_=>false) else(match e' with | .bvar n'=>Nat.beq n n' | _=>false)
 | e=>e.same e'&&e.sc m.v0
def Mt.okR (m:Mt) (e e':E):Bool:=
 match e with
 | .lvar n=>if m.v0≤n then(match m.vks[n-m.v0]?,m.θ[n-m.v0]? with | some (.list _),some t=>t.same e' | _,_=>false) else(match e' with | .lvar n'=>Nat.beq n n' | _=>false)
 | e=>e.same e'&&e.sc m.v0
def Mt.okId (m:Mt) (b b':Nat):Bool:=match m.sig b with | some (some x)=>Nat.beq x b' | _=>false
def Mt.okP (m:Mt):Option (Bool×Nat×Nat)→Option (Bool×Nat×Nat)→Bool
 | none,none=>true
 | some (true,b,o),some (true,b',o')=>Nat.beq o o'&&m.okId b b'
 | some (false,b,o),some (false,b',o')=>Nat.beq o o'&&Nat.beq b b'
 | _,_=>false
def Mt.okPs (m:Mt):List (Option (Bool×Nat×Nat))→List (Option (Bool×Nat×Nat))→Bool
 | [],[]=>true
 | x::l,y::r=>m.okP x y&&m.okPs l r
 | _,_=>false
def Mt.okC (m:Mt) (c d:C):Bool:=
 match c with
 | .int k e=>(match d with | .int k' e'=>aR k k'&&m.okI e e' | _=>false)
 | .bool e=>(match d with | .bool e'=>m.okB e e' | _=>false)
 | .ptr b o=>(match d with | .ptr b' o'=>Nat.beq o o'&&m.okId b b' | _=>false)
 | .fp b o=>(match d with | .fp b' o'=>Nat.beq b b'&&Nat.beq o o' | _=>false)
 | .fn f=>(match d with | .fn f'=>Nat.beq f f' | _=>false)
 | .nilp=>(match d with | .nilp=>true | _=>false)
 | .undef=>(match d with | .undef=>true | _=>false)
 | .sl id=>(match d with | .sl id'=>m.okId id id' | .nsl=>(match m.sig id with | some none=>true | _=>false) | _=>false)
 | .ep id z e o=>(match d with | .ep id' z' e' o'=>m.okId id id'&&(Nat.beq z z'&&(m.okI e e'&&Nat.beq o o')) | _=>false)
 | .nsl=>(match d with | .nsl=>true | _=>false)
 | .nilf=>(match d with | .nilf=>true | _=>false)
 | .nmp=>(match d with | .nmp=>true | _=>false)
 | .pe b o n sz e off=>(match d with | .pe b' o' n' sz' e' off'=>m.okId b b'&&(Nat.beq o o'&&(Nat.beq n n'&&(Nat.beq sz sz'&&(m.okI e e'&&Nat.beq off off')))) | _=>false)
 | .wn id sz lo hi mx=>(match d with | .wn id' sz' lo' hi' mx'=>m.okId id id'&&(Nat.beq sz sz'&&(m.okI lo lo'&&(m.okI hi hi'&&(match mx,mx' with | none,none=>true | some x,some y=>m.okI x y | _,_=>false)))) | _=>false)
 | .aw b o n sz lo hi mx=>(match d with | .aw b' o' n' sz' lo' hi' mx'=>m.okId b b'&&(Nat.beq o o'&&(Nat.beq n n'&&(Nat.beq sz sz'&&(m.okI lo lo'&&(m.okI hi hi'&&m.okI mx mx'))))) | _=>false)
 | .str e=>(match d with | .str e'=>m.okR e e' | _=>false)
 | .mp id=>(match d with | .mp id'=>m.okId id id' | _=>false)
 | .itp id mid=>(match d with | .itp id' mid'=>m.okId id id'&&m.okId mid mid' | _=>false)
 | .yld id=>(match d with | .yld id'=>m.okId id id' | _=>false)
 | .clo g fs ps=>(match d with | .clo g' fs' ps'=>Nat.beq g g'&&(m.okPs fs fs'&&m.okPs ps ps') | _=>false)
def Mt.okCs (m:Mt):List C→List C→Bool
 | [],[]=>true
 | c::cs,d::ds=>m.okC c d&&m.okCs cs ds
 | _,_=>false
def Mt.okT (m:Mt):List (Bool×List C)→List (Bool×List C)→Bool
 | [],[]=>true
 | (t,cs)::l,(t',ds)::r=>(t==t')&&(m.okCs cs ds&&m.okT l r)
 | _,_=>false
def Mt.okV (m:Mt):V→V→Bool
 | .top,_=>true
 | .one c,.one d=>m.okC c d
 | .agg cs,.agg ds=>m.okCs cs ds
 | .tup l,.tup r=>m.okT l r
 | _,_=>false
def Mt.okLf (m:Mt) (v:V):TT→Bool
 | .leaf u=>m.okV v u
 | .node l r=>match v with
   | .top=>true
   | v=>m.okLf v l&&m.okLf v r
def Mt.okTT (m:Mt):TT→TT→Bool
 | .leaf v,t=>m.okLf v t
 | .node l r,t=>m.okTT l t.fst&&m.okTT r t.snd
def Mt.okOld (m:Mt):List (TT×Nat)→List (TT×Nat)→Bool
 | [],[]=>true
 | (t,n)::l,(t',n')::l'=>Nat.beq n n'&&(m.okTT t t'&&m.okOld l l')
 | _,_=>false
def Mt.okVs (m:Mt) (l r:TM):Bool:=Nat.beq l.n r.n&&(m.okTT l.cur r.cur&&m.okOld l.old r.old)
def Mt.okK (m:Mt):RK→RK→Bool
 | .sl,.sl=>true
 | .map a b c,.map a' b' c'=>Nat.beq a a'&&((b==b')&&(c==c'))
 | .it mid n,.it mid' n'=>m.okId mid mid'&&m.okI n n'
 | .ev,.ev=>true
 | _,_=>false
def uU:Option Sig→Option Sig→Bool
 | none,none=>true
 | some .normal,some .normal=>true
 | some .ret,some .ret=>true
 | some (.exit a),some (.exit b)=>Nat.beq a b
 | _,_=>false
def LS.same:LS→LS→Bool
 | .ready,.ready=>true
 | .busy,.busy=>true
 | .done,.done=>true
 | _,_=>false
def wF (x y:Lp):Bool:=LS.same x.st y.st&&uU x.pend y.pend
theorem wE {x y:Lp} (h:wF x y=true):x=y:=by
 obtain⟨a,b⟩:=x
 obtain⟨c,d⟩:=y
 simp only[wF,Bool.and_eq_true] at h
 have h1:a=c:=by
  have:=h.1
  cases a<;>cases c<;>first | rfl | cases this
 have h2:b=d:=by
  have:=h.2
  rcases b with _ | (_ | _ | _)<;>rcases d with _ | (_ | _ | _)<;>first | rfl | (simp[uU] at this; done) | skip
  rw[Nat.eq_of_beq_eq_true this]
 rw[h1,h2]
def Mt.okOb (m:Mt) (heap:List Ob) (a:Nat):Ob→Bool
 | .gone=>true
 | .box cs ty=>match m.sig a with
   | some (some b)=>(match heap[b]? with | some (.box ds ty')=>Nat.beq ty ty'&&m.okCs cs ds | _=>false)
   | _=>false
 | .row r=>match m.sig a with
   | some (some b)=>(match heap[b]? with | some (.row q)=>bk r.ks q.ks&&(Nat.beq r.ty q.ty&&((r.own==q.own)&&(m.okR r.l q.l&&m.okK r.kd q.kd))) | _=>false)
   | some none=>(match r.ks with | []=>false | _::_=>m.okR r.l .lnil&&r.kd.fits r.ks)
   | none=>false
 | .loop y=>match m.sig a with
   | some (some b)=>(match heap[b]? with | some (.loop y')=>wF y y' | _=>false)
   | _=>false
def Mt.okHeap (m:Mt) (heap:List Ob):Nat→List Ob→Bool
 | _,[]=>true
 | a,ob::l=>m.okOb heap a ob&&m.okHeap heap (a+1) l
def Ob.isGone:Ob→Bool
 | .gone=>true
 | _=>false
def exOk (hd:List Ob) (h0:Nat):List (Option Nat)→Bool
 | []=>true
 | none::l=>exOk hd h0 l
 | some b::l=>(if b<h0 then(match hd[b]? with | some ob=>ob.isGone | none=>false) else true)&&((l.all fun x=>match x with | some b'=>!Nat.beq b b' | none=>true)&&exOk hd h0 l)
def rN (heap:List Ob) (b:Nat):Bool:=match heap[b]? with
 | some (.row r)=>!r.own
 | _=>false
def qk (heap:List Ob):Option Nat→Option Nat
 | some b=>if rN heap b then none else some b
 | none=>none
def rngθ (vk:List VK):List VK→List E→Bool
 | [],[]=>true
 | .int k::ks,e::es=>e.rng vk k&&rngθ vk ks es
 | .bool::ks,_::es=>rngθ vk ks es
 | .list ks0::ks,e::es=>e.lok vk ks0&&rngθ vk ks es
 | _,_=>false
def pE (v0:Nat) (hd:List Ob):Nat→List VK→Bool
 | _,[]=>true
 | n,.list ks::l=>(hd.any fun ob=>match ob with | .row r=>(match r.l with | .lvar m=>Nat.beq m (v0+n) | _=>false)&&bk r.ks ks | _=>false)&&pE v0 hd (n+1) l
 | n,_::l=>pE v0 hd (n+1) l
def Mt.ok (m:Mt) (cx:Cx) (vk:List VK) (tmps:TM) (s:St):Bool:=
 (m.okVs tmps s.tmps&&m.okHeap s.heap 0 m.hd)&&(exOk m.hd m.h0 (m.ex.map (qk s.heap))&&((cx.fb.all fun cs=>m.okCs cs cs)&&(rngθ vk m.vks m.θ&&pE m.v0 m.hd 0 m.vks)))
section
variable {m:Mt} {ρ ρ':Env} {j:J}
theorem eW (hg:Giv m.v0 m.vks m.θ ρ ρ') {e e':E} (h:m.okI e e'=true):e.I ρ'=e'.I ρ:=by
 unfold Mt.okI at h
 split at h
 ·rename_i n
  split at h
  ·rename_i hn
   split at h
   ·rename_i k t hk ht
    have h1:=hg.i _ _ t hk ht
    rw[show m.v0+(n-m.v0)=n by omega] at h1
    rw[←E.same_eq h]
    exact h1
   ·cases h
  ·rename_i hn
   split at h
   ·rename_i n'
    rw[←Nat.eq_of_beq_eq_true h]
    exact(hg.ag n (by omega)).1.symm
   ·cases h
 ·rw[Bool.and_eq_true] at h
  rw[←E.same_eq h.1]
  exact(E.sc_eq hg.ag _ h.2).1.symm
theorem acs (hg:Giv m.v0 m.vks m.θ ρ ρ') {e e':E} (h:m.okB e e'=true):e.B ρ'=e'.B ρ:=by
 unfold Mt.okB at h
 split at h
 ·rename_i n
  split at h
  ·rename_i hn
   split at h
   ·rename_i t hk ht
    have h1:=hg.b _ t hk ht
    rw[show m.v0+(n-m.v0)=n by omega] at h1
    rw[←E.same_eq h]
    exact h1
   ·cases h
  ·rename_i hn
   split at h
   ·rename_i n'
    rw[←Nat.eq_of_beq_eq_true h]
    exact(hg.ag n (by omega)).2.1.symm
   ·cases h
 ·rw[Bool.and_eq_true] at h
  rw[←E.same_eq h.1]
  exact(E.sc_eq hg.ag _ h.2).2.1.symm
theorem wt (hg:Giv m.v0 m.vks m.θ ρ ρ') {e e':E} (h:m.okR e e'=true):e.R ρ'=e'.R ρ:=by
 unfold Mt.okR at h
 split at h
 ·rename_i n
  split at h
  ·rename_i hn
   split at h
   ·rename_i ks t hk ht
    have h1:=hg.l _ _ t hk ht
    rw[show m.v0+(n-m.v0)=n by omega] at h1
    rw[←E.same_eq h]
    exact h1
   ·cases h
  ·rename_i hn
   split at h
   ·rename_i n'
    rw[←Nat.eq_of_beq_eq_true h]
    exact(hg.ag n (by omega)).2.2.symm
   ·cases h
 ·rw[Bool.and_eq_true] at h
  rw[←E.same_eq h.1]
  exact(E.sc_eq hg.ag _ h.2).2.2.2.1.symm
def nilSV:SV:=⟨none,0,0,[]⟩
theorem fq {o:Bool} {k:Nat}:¬nilSV.blk o=some k:=fun h=>by have:=ap h; cases this
def Mt.J (m:Mt) (j:J):J:=
 ⟨fun b=>match m.sig b with | some (some x)=>j.b x | _=>none,fun id=>match m.sig id with | some (some x)=>j.s x | some none=>some nilSV | none=>none,j.f,⟨fun b=>match m.sig b with | some (some x)=>j.g.y x | _=>none,j.g.z⟩⟩
theorem eV {b b':Nat} (h:m.okId b b'=true):(m.J j).b b=j.b b'∧(m.J j).s b=j.s b':=by
 unfold Mt.okId at h
 split at h
 ·rename_i x hx
  rw[←Nat.eq_of_beq_eq_true h]
  simp only[Mt.J,hx,and_self]
 ·cases h
theorem acr {b b':Nat} (h:m.okId b b'=true):(m.J j).g.y b=j.g.y b':=by
 unfold Mt.okId at h
 split at h
 ·rename_i x hx
  rw[←Nat.eq_of_beq_eq_true h]
  simp only[Mt.J,hx]
 ·cases h
theorem acp {x y:Option (Bool×Nat×Nat)} (h:m.okP x y=true) {v:Value} (hd:ptrV j y=some v):ptrV (m.J j) x=some v:=by
 unfold Mt.okP at h
 split at h
 ·exact hd
 ·simp only[Bool.and_eq_true] at h
  have:=Nat.eq_of_beq_eq_true h.1
  subst this
  simp only[ptrV] at hd ⊢
  rw[(eV h.2).1]; exact hd
 ·simp only[Bool.and_eq_true] at h
  rw[Nat.eq_of_beq_eq_true h.1,Nat.eq_of_beq_eq_true h.2]
  exact hd
 ·cases h
theorem pz:∀{l r:List (Option (Bool×Nat×Nat))},m.okPs l r=true→∀{vs:List Value},bU j r=some vs→bU (m.J j) l=some vs
 | [],[],_,vs,hd=>hd
 | x::l,y::r,h,vs,hd=>by
   simp only[Mt.okPs,Bool.and_eq_true] at h
   simp only[bU] at hd ⊢
   cases hx:ptrV j y with
   | none=>rw[hx] at hd; cases hd
   | some v=>
     cases hl:bU j r with
     | none=>rw[hx,hl] at hd; cases hd
     | some us=>
       rw[hx,hl] at hd
       rw[acp h.1 hx,pz h.2 hl]
       exact hd
def kdSm (ρ ρ':Env):RK→RK→Prop
 | .sl,.sl=>True
 | .map a b c,.map a' b' c'=>a=a'∧b=b'∧c=c'
 | .it _ n,.it _ n'=>n.I ρ'=n'.I ρ
 | .ev,.ev=>True
 | _,_=>False
theorem acq (hg:Giv m.v0 m.vks m.θ ρ ρ') {a b:RK} (h:m.okK a b=true):kdSm ρ ρ' a b:=by
 cases a<;>cases b<;>simp only[Mt.okK] at h<;>first | exact Bool.noConfusion h | skip
 ·trivial
 ·simp only[Bool.and_eq_true,beq_iff_eq] at h
  exact⟨Nat.eq_of_beq_eq_true h.1,h.2.1,h.2.2⟩
 ·simp only[Bool.and_eq_true] at h
  exact eW hg h.2
 ·trivial
theorem RowOk.swap {base:Nat} {w:World} {v:SV} {r q:RowOb} (e1:r.ks=q.ks) (e2:r.ty=q.ty) (e3:r.own=q.own) (e4:r.l.R ρ'=q.l.R ρ) (e5:kdSm ρ ρ' r.kd q.kd) (h:RowOk ρ base w v q):RowOk ρ' base w v r:=by
 rcases h.cases with⟨hk,h6⟩ | ⟨hk,h6⟩ | ⟨hk,h6⟩
 ·have hk':r.kd=.sl:=by
   rw[hk] at e5
   cases hr:r.kd<;>rw[hr] at e5<;>first | rfl | exact e5.elim
  refine SlOk.row ⟨?_,?_,?_,by rw[e3]; exact h6.lt,fun ho=> ?_,?_⟩ hk'
  ·rw[e4]; exact h6.n
  ·rw[e1,e4]; exact h6.rows
  ·rw[e1]; exact h6.pos
  ·rw[e1,e2,e4]; exact h6.own (by rw[←e3]; exact ho)
  ·rw[e1,e4]; exact h6.rd
 ·obtain⟨g,ob,h1,h2,h3,h4⟩:=h6.at'
  refine HdOk.row ⟨by rw[e3]; exact h6.own,by rw[e1,e4]; exact h6.rows,h6.c,g,ob,h1,h2,h3,?_⟩ ?_
  ·unfold obOf at h4 ⊢
   cases hr:r.kd<;>cases hq:q.kd<;>rw[hr,hq] at e5<;>first | exact e5.elim | skip
   ·rw[hq] at hk; cases hk
   ·rw[hq] at h4
    obtain⟨rfl,rfl,rfl⟩:=e5
    rw[e1,e4]
    exact h4
   ·rw[hq] at h4
    have e5':_=_:=e5
    dsimp only at h4 ⊢
    rw[e1,e4,e5']
    exact h4
   ·rw[hq] at hk; cases hk
  ·cases hr:r.kd<;>cases hq:q.kd<;>rw[hr,hq] at e5<;>first | exact e5.elim | rfl | (rw[hq] at hk; cases hk)
 ·have hk':r.kd=.ev:=by
   rw[hk] at e5
   cases hr:r.kd<;>rw[hr] at e5<;>first | rfl | exact e5.elim
  obtain⟨ins,g1,g2,g3,g4⟩:=h6.at'
  exact EvOk.row ⟨by rw[e1]; exact h6.ks,by rw[e4]; exact h6.n,by rw[e1,e4]; exact h6.rows,by rw[e3]; exact h6.lt,by rw[e3]; exact h6.zb,ins,by rw[e4]; exact g1,by rw[e2,e3,e4]; exact g2,by rw[e4]; exact g3,by rw[e4]; exact g4⟩ hk'
theorem wu (hg:Giv m.v0 m.vks m.θ ρ ρ') {c d:C} (h:m.okC c d=true) {v:Value} (hd:d.den ρ j=some v):c.den ρ' (m.J j)=some v:=by
 cases c with
 | int k e=>
   simp only[Mt.okC] at h
   split at h
   ·simp only[Bool.and_eq_true] at h
    simp only[C.den] at hd ⊢
    rw[ao h.1,eW hg h.2]; exact hd
   ·cases h
 | bool e=>
   simp only[Mt.okC] at h
   split at h
   ·simp only[C.den] at hd ⊢; rw[acs hg h]; exact hd
   ·cases h
 | ptr b o=>
   simp only[Mt.okC] at h
   split at h
   ·simp only[Bool.and_eq_true] at h
    simp only[C.den] at hd ⊢
    rw[Nat.eq_of_beq_eq_true h.1,(eV h.2).1]; exact hd
   ·cases h
 | fp b o=>
   simp only[Mt.okC] at h
   split at h
   ·simp only[Bool.and_eq_true] at h
    rw[Nat.eq_of_beq_eq_true h.1,Nat.eq_of_beq_eq_true h.2]; exact hd
   ·cases h
 | fn f=>
   simp only[Mt.okC] at h
   split at h
   ·rw[Nat.eq_of_beq_eq_true h]; exact hd
   ·cases h
 | nilp=>simp only[Mt.okC] at h; split at h<;>first | exact hd | cases h
 | undef=>simp only[Mt.okC] at h; split at h<;>first | exact hd | cases h
 | nsl=>simp only[Mt.okC] at h; split at h<;>first | exact hd | cases h
 | nilf=>simp only[Mt.okC] at h; split at h<;>first | exact hd | cases h
 | nmp=>simp only[Mt.okC] at h; split at h<;>first | exact hd | cases h
 | clo g fs ps=>
   simp only[Mt.okC] at h
   split at h
   ·rename_i g' fs' ps'
    simp only[Bool.and_eq_true] at h
    obtain⟨x,y,hx,hy,rfl⟩:=cC (show cloV g' (bU j fs') (bU j ps')=some v from hd)
    simp only[C.den,pz h.2.1 hx,pz h.2.2 hy,cloV,Nat.eq_of_beq_eq_true h.1]
   ·cases h
 | sl id=>
   simp only[Mt.okC] at h
   split at h
   ·simp only[C.den] at hd ⊢
    rw[(eV h).2]; exact hd
   ·split at h
    ·rename_i hs
     cases hd
     simp only[C.den,Mt.J,hs]
     rfl
    ·cases h
   ·cases h
 | pe b o n sz e off=>
   simp only[Mt.okC] at h
   split at h
   ·simp only[Bool.and_eq_true] at h
    simp only[C.den] at hd ⊢
    rw[(eV h.1).1,Nat.eq_of_beq_eq_true h.2.1,Nat.eq_of_beq_eq_true h.2.2.2.1,eW hg h.2.2.2.2.1,Nat.eq_of_beq_eq_true h.2.2.2.2.2]; exact hd
   ·cases h
 | yld id=>
   simp only[Mt.okC] at h
   split at h
   ·simp only[C.den] at hd ⊢
    rw[acr h]; exact hd
   ·cases h
 | mp id=>
   simp only[Mt.okC] at h
   split at h
   ·simp only[C.den] at hd ⊢
    rw[(eV h).2]; exact hd
   ·cases h
 | wn id sz lo hi mx=>
   simp only[Mt.okC] at h
   split at h
   ·rename_i id' sz' lo' hi' mx'
    simp only[Bool.and_eq_true] at h
    obtain⟨h1,h2,h3,h4,h5⟩:=h
    have hm:∀c,mxN ρ' mx c=mxN ρ mx' c:=fun c=>by
     cases mx<;>cases mx'<;>first | rfl | exact Bool.noConfusion h5 | (simp only[mxN,eW hg h5])
    simp only[C.den] at hd ⊢
    simp only[(eV h1).2,Nat.eq_of_beq_eq_true h2,eW hg h3,eW hg h4,hm]; exact hd
   ·cases h
 | aw b o n sz lo hi mx=>
   simp only[Mt.okC] at h
   split at h
   ·simp only[Bool.and_eq_true] at h
    obtain⟨h1,h2,h3,h4,h5,h6,h7⟩:=h
    simp only[C.den] at hd ⊢
    rw[(eV h1).1,Nat.eq_of_beq_eq_true h2,Nat.eq_of_beq_eq_true h3,Nat.eq_of_beq_eq_true h4,eW hg h5,eW hg h6,eW hg h7]; exact hd
   ·cases h
 | str e=>
   simp only[Mt.okC] at h
   split at h
   ·simp only[C.den] at hd ⊢
    rw[wt hg h]; exact hd
   ·cases h
 | itp id mid=>
   simp only[Mt.okC] at h
   split at h
   ·simp only[Bool.and_eq_true] at h
    simp only[C.den] at hd ⊢
    rw[(eV h.1).2,(eV h.2).2]; exact hd
   ·cases h
 | ep id z e o=>
   simp only[Mt.okC] at h
   split at h
   ·simp only[Bool.and_eq_true] at h
    simp only[C.den] at hd ⊢
    rw[(eV h.1).2,Nat.eq_of_beq_eq_true h.2.1,eW hg h.2.2.1,Nat.eq_of_beq_eq_true h.2.2.2]; exact hd
   ·cases h
theorem jX (hg:Giv m.v0 m.vks m.θ ρ ρ'):∀{cs ds:List C},m.okCs cs ds=true→∀{vs:List Value},denL ρ j ds=some vs→denL ρ' (m.J j) cs=some vs
 | [],[],_,vs,h=>h
 | c::cs,d::ds,h,vs,hd=>by
   simp only[Mt.okCs,Bool.and_eq_true] at h
   simp only[denL] at hd ⊢
   cases hc:d.den ρ j with
   | none=>rw[hc] at hd; cases hd
   | some v=>
     cases hl:denL ρ j ds with
     | none=>rw[hc,hl] at hd; cases hd
     | some l=>
       rw[hc,hl] at hd
       rw[wu hg h.1 hc,jX hg h.2 hl]
       exact hd
theorem zJ (hg:Giv m.v0 m.vks m.θ ρ ρ'):∀{cs ds:List (Bool×List C)},m.okT cs ds=true→∀{vs:List Value},bh ρ j ds=some vs→bh ρ' (m.J j) cs=some vs
 | [],[],_,vs,h=>h
 | (t,cs)::l,(t',ds)::r,h,vs,hd=>by
   simp only[Mt.okT,Bool.and_eq_true,beq_iff_eq] at h
   obtain⟨rfl,h1,h2⟩:=h
   simp only[bh] at hd ⊢
   cases hc:den0 ρ j (t,ds) with
   | none=>rw[hc] at hd; cases hd
   | some v=>
     cases hl:bh ρ j r with
     | none=>rw[hc,hl] at hd; cases hd
     | some us=>
       rw[hc,hl] at hd
       have h3:den0 ρ' (m.J j) (t,cs)=some v:=by
        cases t with
        | true=>
          simp only[den0,Option.map_eq_some_iff] at hc ⊢
          obtain⟨vs',hv,rfl⟩:=hc
          exact⟨vs',jX hg h1 hv,rfl⟩
        | false=>
          match ds,hc with
          | [d],hc=>
            match cs,h1 with
            | [c],h1=>
              simp only[Mt.okCs,Bool.and_true] at h1
              exact wu hg h1 hc
            | _::_::_,h1=>simp[Mt.okCs] at h1
       rw[h3,zJ hg h2 hl]
       exact hd
theorem aco (hg:Giv m.v0 m.vks m.θ ρ ρ') {x y:V} (h:m.okV x y=true):x=.top∨(y≠.top∧∀{v},y.den ρ j=some v→x.den ρ' (m.J j)=some v):=by
 unfold Mt.okV at h
 split at h
 ·exact .inl rfl
 ·exact .inr ⟨fun e=>(by cases e),fun hd=>wu hg h hd⟩
 ·refine .inr ⟨fun e=>(by cases e),fun hd=> ?_⟩
  simp only[V.den,Option.map_eq_some_iff] at hd ⊢
  obtain⟨l,hl,rfl⟩:=hd
  exact⟨l,jX hg h hl,rfl⟩
 ·refine .inr ⟨fun e=>(by cases e),fun hd=> ?_⟩
  simp only[V.den,Option.map_eq_some_iff] at hd ⊢
  obtain⟨l,hl,rfl⟩:=hd
  exact⟨l,zJ hg h hl,rfl⟩
 ·cases h
theorem pA {v:V}:∀{t:TT},m.okLf v t=true→∀i,m.okV v (t.get i)=true
 | .leaf u,h,i=>h
 | .node l r,h,i=>by
   rw[TT.get_node]
   by_cases hv:v=.top
   ·subst hv; rfl
   ·have h':(m.okLf v l&&m.okLf v r)=true:=by
     unfold Mt.okLf at h
     split at h
     ·exact absurd rfl hv
     ·exact h
    rw[Bool.and_eq_true] at h'
    split
    ·exact pA h'.1 _
    ·exact pA h'.2 _
theorem mq:∀{t u:TT},m.okTT t u=true→∀i,m.okV (t.get i) (u.get i)=true
 | .leaf v,u,h,i=>pA h i
 | .node l r,u,h,i=>by
   simp only[Mt.okTT,Bool.and_eq_true] at h
   rw[TT.get_node]
   split
   ·rename_i hi; rw[←TT.get_fst u i hi]; exact mq h.1 _
   ·rename_i hi; rw[←TT.get_snd u i hi]; exact mq h.2 _
theorem rt:∀{l r:List (TT×Nat)},m.okOld l r=true→bV l=bV r∧∀(i:Nat) x y,dz l i=some x→dz r i=some y→m.okV x y=true
 | [],[],_=>⟨rfl,fun i x y h=>by cases h⟩
 | (t,n)::l,(t',n')::l',h=>by
   simp only[Mt.okOld,Bool.and_eq_true] at h
   obtain rfl:=Nat.eq_of_beq_eq_true h.1
   obtain⟨h1,h2⟩:=rt h.2.2
   refine⟨by simp only[bV,h1],fun i x y hx hy=> ?_⟩
   unfold dz at hx hy
   split at hx
   ·rename_i hi
    rw[if_pos hi] at hy
    cases hx; cases hy
    exact mq h.2.1 i
   ·rename_i hi
    rw[if_neg hi] at hy
    exact h2 _ x y hx hy
theorem abg {l r:TM} (h:m.okVs l r=true):l.length=r.length∧∀(i:Nat) x y,l.get? i=some x→r.get? i=some y→m.okV x y=true:=by
 simp only[Mt.okVs,Bool.and_eq_true] at h
 obtain⟨h1,h2,h3⟩:=h
 replace h1:=Nat.eq_of_beq_eq_true h1
 obtain⟨h4,h5⟩:=rt h3
 refine⟨by unfold TM.length; rw[h1,h4],fun i x y hx hy=> ?_⟩
 unfold TM.get? at hx hy
 rw[←h1] at hy
 split at hx
 ·rename_i hi
  rw[if_pos hi] at hy
  cases hx; cases hy
  exact mq h2 i
 ·rename_i hi
  rw[if_neg hi] at hy
  exact h5 _ x y hx hy
theorem ot {heap:List Ob}:∀{l:List Ob} {a:Nat},m.okHeap heap a l=true→∀(i:Nat) ob,l[i]? =some ob→m.okOb heap (a+i) ob=true
 | [],a,_,i,ob,hi=>by simp at hi
 | x::l,a,h,i,ob,hi=>by
   simp only[Mt.okHeap,Bool.and_eq_true] at h
   cases i with
   | zero=>simp at hi; subst hi; exact h.1
   | succ i=>
     have:=ot h.2 i ob (by simpa using hi)
     rwa [show a+(i+1)=a+1+i by omega]
theorem xd {hd:List Ob} {h0:Nat}:∀{ex:List (Option Nat)},exOk hd h0 ex=true→(∀(i:Nat) b,ex[i]? =some (some b)→b<h0→∃ob,hd[b]? =some ob∧ob.isGone=true)∧∀(i i':Nat) b,ex[i]? =some (some b)→ex[i']? =some (some b)→i=i'
 | [],_=>⟨fun i b h=>by simp at h,fun i i' b h=>by simp at h⟩
 | x::l,h=>by
   have key:exOk hd h0 l=true∧∀b,x=some b→(b<h0→∃ob,hd[b]? =some ob∧ob.isGone=true)∧∀(i:Nat),l[i]? ≠some (some b):=by
    cases x with
    | none=>exact⟨h,fun b hb=>by cases hb⟩
    | some b=>
      simp only[exOk,Bool.and_eq_true] at h
      refine⟨h.2.2,fun b' hb=> ?_⟩
      cases hb
      refine⟨fun hlt=> ?_,fun i hi=> ?_⟩
      ·have h1:=h.1
       rw[if_pos hlt] at h1
       split at h1
       ·rename_i ob hob; exact⟨ob,hob,h1⟩
       ·cases h1
      ·have h2:=List.all_eq_true.1 h.2.1 _ (List.mem_of_getElem? hi)
       simp at h2
   obtain⟨k1,k2⟩:=key
   obtain⟨g1,g2⟩:=xd k1
   refine⟨fun i b hi hb=> ?_,fun i i' b hi hi'=> ?_⟩
   ·cases i with
    | zero=>simp at hi; exact(k2 b hi).1 hb
    | succ i=>exact g1 i b (by simpa using hi) hb
   ·cases i with
    | zero=>
      simp at hi
      cases i' with
      | zero=>rfl
      | succ i'=>exact absurd (by simpa using hi') ((k2 b hi).2 i')
    | succ i=>
      cases i' with
      | zero=>
        simp at hi'
        exact absurd (by simpa using hi) ((k2 b hi').2 i)
      | succ i'=>rw[g2 i i' b (by simpa using hi) (by simpa using hi')]
theorem uT {heap:List Ob} (h:exOk m.hd m.h0 (m.ex.map (qk heap))=true) {a a' x:Nat} (hv:rN heap x=false) (h1:m.sig a=some (some x)) (h2:m.sig a'=some (some x)):a=a':=by
 obtain⟨g1,g2⟩:=xd h
 have key:∀a,m.sig a=some (some x)→(a<m.h0∧a=x∧∃ob,m.hd[a]? =some ob∧ob.isGone=false)∨(m.h0≤a∧(m.ex.map (qk heap))[a-m.h0]? =some (some x)):=by
  intro a ha
  unfold Mt.sig at ha
  split at ha
  all_goals first
   | cases ha; done
   | split at ha
     ·rename_i hob hlt
      cases ha
      exact .inl ⟨hlt,rfl,_,hob,rfl⟩
     ·exact .inr ⟨by omega,by rw[List.getElem?_map,ha]; simp[qk,hv]⟩
 rcases key a h1 with⟨k1,k2,ob,k3,k4⟩ | ⟨k1,k2⟩<;>rcases key a' h2 with⟨l1,l2,ob',l3,l4⟩ | ⟨l1,l2⟩
 ·omega
 ·subst k2
  obtain⟨ob1,q1,q2⟩:=g1 _ _ l2 k1
  rw[k3] at q1; cases q1
  rw[k4] at q2; cases q2
 ·subst l2
  obtain⟨ob1,q1,q2⟩:=g1 _ _ k2 l1
  rw[l3] at q1; cases q1
  rw[l4] at q2; cases q2
 ·have:=g2 _ _ _ k2 l2
  omega
theorem jW {heap:List Ob} (h:m.okHeap heap 0 m.hd=true) {a:Nat} {ob:Ob} (ha:m.hd[a]? =some ob):m.okOb heap a ob=true:=by
 have:=ot h a ob ha
 rwa [Nat.zero_add] at this
theorem gc {cx:Cx} {vk:List VK} {tmps:TM} {s:St} {n:Nat} {X:List Value} {W0:Wb} {w:World} {a:Act} (hok:m.ok cx vk tmps s=true) (hg:Giv m.v0 m.vks m.θ ρ ρ') (h:Rel ρ n X W0 cx.fbs s.fs j a w):Rel ρ' n X W0 cx.fbs (St.mk tmps m.hd).fs (m.J j) a w:=by
 simp only[Mt.ok,Bool.and_eq_true] at hok
 obtain⟨⟨hT,hH⟩,hX,hF,-,-⟩:=hok
 obtain⟨hl,hat⟩:=abg hT
 have sigRow:∀{b:Nat} {ob:Ob},s.heap[b]? =some ob→∀{cs ty},ob=.box cs ty→s.fs.row b=none:=fun hb _ _ e=>by
  subst e; simp only[St.fs,fsOf,rowH,hb]
 have sigBox:∀{b:Nat} {ob:Ob},s.heap[b]? =some ob→∀{r},ob=.row r→s.fs.box b=none:=fun hb _ e=>by
  subst e; simp only[St.fs,fsOf,boxH,hb]
 have boxAt:∀{b cs ty},m.hd[b]? =some (.box cs ty)→∃x ds,m.sig b=some (some x)∧s.heap[x]? =some (.box ds ty)∧m.okCs cs ds=true:=by
  intro b cs ty hb
  have h1:=jW hH hb
  simp only[Mt.okOb] at h1
  split at h1
  ·rename_i x hx
   split at h1
   ·rename_i ds ty' hds
    simp only[Bool.and_eq_true] at h1
    have:=Nat.eq_of_beq_eq_true h1.1
    subst this
    exact⟨x,ds,hx,hds,h1.2⟩
   ·cases h1
  ·cases h1
 have eP:∀{b r},m.hd[b]? =some (.row r)→(∃x q,m.sig b=some (some x)∧s.heap[x]? =some (.row q)∧r.ks=q.ks∧r.ty=q.ty∧r.own=q.own∧r.l.R ρ'=q.l.R ρ∧m.okK r.kd q.kd=true)∨(m.sig b=some none∧0<r.ks.length∧r.l.R ρ'=[]∧r.kd=kdOf r.ks):=by
  intro b r hb
  have h1:=jW hH hb
  simp only[Mt.okOb] at h1
  split at h1
  ·rename_i x hx
   split at h1
   ·rename_i q hq
    simp only[Bool.and_eq_true,beq_iff_eq] at h1
    exact .inl ⟨x,q,hx,hq,bg h1.1,Nat.eq_of_beq_eq_true h1.2.1,h1.2.2.1,wt hg h1.2.2.2.1,h1.2.2.2.2⟩
   ·cases h1
  ·rename_i hx
   split at h1
   ·cases h1
   ·rename_i k ks hk
    rw[Bool.and_eq_true] at h1
    exact .inr ⟨hx,by rw[hk]; simp,wt hg h1.1,RK.fits_eq h1.2⟩
  ·cases h1
 have lpAt:∀{b y},m.hd[b]? =some (.loop y)→∃x,m.sig b=some (some x)∧s.heap[x]? =some (.loop y):=by
  intro b y hb
  have h1:=jW hH hb
  simp only[Mt.okOb] at h1
  split at h1
  ·rename_i x hx
   split at h1
   ·rename_i y' hy
    exact⟨x,hx,by rw[wE h1]; exact hy⟩
   ·cases h1
  ·cases h1
 have noneSig:∀{b},(∀cs ty,m.hd[b]? ≠some (.box cs ty))→(∀r,m.hd[b]? ≠some (.row r))→(∀y,m.hd[b]? ≠some (.loop y))→m.sig b=none:=by
  intro b h1 h2 h0
  unfold Mt.sig
  split
  ·rename_i hb; exact absurd hb (h1 _ _)
  ·rename_i hb; exact absurd hb (h2 _)
  ·rename_i hb; exact absurd hb (h0 _)
  ·rfl
 have fsBox:∀b cs ty,(St.mk tmps m.hd).fs.box b=some (cs,ty)→m.hd[b]? =some (.box cs ty):=by
  intro b cs ty hb
  simp only[St.fs,fsOf,boxH] at hb
  split at hb
  ·rename_i cs' ty' hb'; cases hb; exact hb'
  ·cases hb
 have fsRow:∀b r,(St.mk tmps m.hd).fs.row b=some (some r)→m.hd[b]? =some (.row r):=by
  intro b r hb
  simp only[St.fs,fsOf,rowH] at hb
  split at hb
  ·rename_i r' hb'; cases hb; exact hb'
  ·cases hb
  ·cases hb
 have rowBack:∀{x q},s.heap[x]? =some (.row q)→s.fs.row x=some (some q):=fun hx=>by simp only[St.fs,fsOf,rowH,hx]
 have boxBack:∀{x cs ty},s.heap[x]? =some (.box cs ty)→s.fs.box x=some (cs,ty):=fun hx=>by simp only[St.fs,fsOf,boxH,hx]
 have at1:∀t v,(s.fs.tmp t=.top∨(s.fs.tmp t).den ρ j=some v)→((St.mk tmps m.hd).fs.tmp t=.top∨((St.mk tmps m.hd).fs.tmp t).den ρ' (m.J j)=some v):=by
  intro t v h2
  rcases Nat.lt_or_ge t tmps.length with h3 | h3
  ·obtain⟨x,hx⟩:=TM.get_some h3
   obtain⟨y,hy⟩:=TM.get_some (m:=s.tmps) (i:=t) (by omega)
   have h5:=hat t _ _ hx hy
   have e1:(St.mk tmps m.hd).fs.tmp t=x:=by simp[St.fs,fsOf,hx]
   have e2:s.fs.tmp t=y:=by simp[St.fs,fsOf,hy]
   rw[e1]
   rw[e2] at h2
   rcases aco hg (j:=j) h5 with h6 | ⟨h6,h7⟩
   ·exact .inl h6
   ·rcases h2 with h2 | h2
    ·exact absurd h2 h6
    ·exact .inr (h7 h2)
  ·have e1:(St.mk tmps m.hd).fs.tmp t=.one .undef:=by simp only[St.fs,fsOf]; rw[TM.get_none.2 h3]; rfl
   have e2:s.fs.tmp t=.one .undef:=by simp only[St.fs,fsOf]; rw[TM.get_none.2 (by omega)]; rfl
   rw[e1]
   rw[e2] at h2
   rcases h2 with h2 | h2
   ·cases h2
   ·exact .inr h2
 refine⟨h.defers,h.size,fun t ht=> ?_,fun i v hi=>at1 _ v (h.sav i v hi),fun b cs ty hb=> ?_,fun b hb=> ?_,fun b b' k hb hb'=> ?_,fun b r hb=> ?_,fun b hb=> ?_,fun b b' k r v hb hr hs hk=> ?_,fun b b' r r' v v' k hr ho hr' hs hs' hk hk'=> ?_,fun b cs hb=> ?_,h.ext,⟨h.gs.at',fun k o b hz e=> ?_,fun k o id r v hz hr hs hc e=> ?_,h.gs.md,h.gs.nd,fun id y hy=> ?_,fun id hF hy=> ?_,fun id r v hr hs p hp=> ?_⟩⟩
 ·obtain⟨v,h1,h2⟩:=h.tmp t ht
  exact⟨v,h1,at1 t v h2⟩
 ·obtain⟨x,ds,h1,h2,h3⟩:=boxAt (fsBox b cs ty hb)
  obtain⟨k,vs,h4,h5,h6,h7⟩:=h.box x ds ty (boxBack h2)
  exact⟨k,vs,by simp only[Mt.J,h1]; exact h4,h5,jX hg h3 h6,h7⟩
 ·simp only[Mt.J]
  cases hs:m.hd[b]? with
  | none=>rw[noneSig (by rw[hs]; intros; simp) (by rw[hs]; intros; simp) (by rw[hs]; intros; simp)]
  | some ob=>
    cases ob with
    | box cs ty=>simp[St.fs,fsOf,boxH,hs] at hb
    | gone=>rw[noneSig (by rw[hs]; intros; simp) (by rw[hs]; intros; simp) (by rw[hs]; intros; simp)]
    | row r=>
      rcases eP hs with⟨x,q,h1,h2,_⟩ | ⟨h1,_⟩
      ·rw[h1]; exact h.nob x (sigBox h2 rfl)
      ·rw[h1]
    | loop y=>
      obtain⟨x,h1,h2⟩:=lpAt hs
      rw[h1]; exact h.nob x (by simp only[St.fs,fsOf,boxH,h2])
 ·simp only[Mt.J] at hb hb'
  split at hb<;>first | cases hb; done | skip
  rename_i x hx
  split at hb'<;>first | cases hb'; done | skip
  rename_i x' hx'
  have:=h.inj x x' k hb hb'
  subst this
  refine uT hX ?_ hx hx'
  unfold rN
  split
  ·rename_i q hq
   have:=h.nob x (sigBox hq rfl)
   rw[hb] at this; cases this
  ·rfl
 ·rcases eP (fsRow b r hb) with⟨x,q,h1,h2,e1,e2,e3,e4,e5⟩ | ⟨h1,h2,h3,h4⟩
  ·obtain⟨v,h5,h6⟩:=h.row x q (rowBack h2)
   exact⟨v,by simp only[Mt.J,h1]; exact h5,RowOk.swap e1 e2 e3 e4 (acq hg e5) h6⟩
  ·refine⟨nilSV,by simp only[Mt.J,h1],?_⟩
   rcases bF r.ks with⟨g1,g2⟩ | ⟨_,g2⟩
   ·exact EvOk.row ⟨g1,by rw[h3]; rfl,by rw[h3]; exact⟨fun r hr=>(by cases hr),by simp⟩,fun k hk=>absurd hk fq,fun _ p hp=>(by cases hp),[],by rw[h3]; rfl,fun _=>(by rw[h3]; exact World.ownsRow_nil _ _ _ _),by rw[h3]; exact RdRow.nil,fun i row x hr=>by rw[h3] at hr; simp at hr⟩ (h4.trans g2)
   ·refine SlOk.row ⟨by rw[h3]; rfl,by rw[h3]; exact⟨fun r hr=>(by cases hr),by simp⟩,h2,fun k hk=>absurd hk fq,fun _=>(by rw[h3]; exact World.ownsRow_nil _ _ _ _),?_⟩ (h4.trans g2)
    rw[h3]
    exact RdRow.nil
 ·simp only[Mt.J]
  cases hs:m.hd[b]? with
  | none=>rw[noneSig (by rw[hs]; intros; simp) (by rw[hs]; intros; simp) (by rw[hs]; intros; simp)]
  | some ob=>
    cases ob with
    | row r=>simp[St.fs,fsOf,rowH,hs] at hb
    | gone=>simp[St.fs,fsOf,rowH,hs] at hb
    | box cs ty=>
      obtain⟨x,ds,h1,h2,h3⟩:=boxAt hs
      rw[h1]; exact h.nor x (sigRow h2 rfl)
    | loop y=>
      obtain⟨x,h1,h2⟩:=lpAt hs
      rw[h1]; exact h.nor x (by simp only[St.fs,fsOf,rowH,h2])
 ·simp only[Mt.J] at hb hs
  split at hb<;>first | cases hb; done | skip
  rename_i x hx
  rcases eP (fsRow b' r hr) with⟨x',q,h1,h2,_,_,e3,_⟩ | ⟨h1,_⟩
  ·rw[h1] at hs
   exact h.sep x x' k q v hb (rowBack h2) hs (by rw[←e3]; exact hk)
  ·rw[h1] at hs
   cases hs
   exact fq hk
 ·simp only[Mt.J] at hs hs'
  rcases eP (fsRow b r hr) with⟨x,q,h1,h2,_,_,e3,_⟩ | ⟨h1,_⟩
  ·rcases eP (fsRow b' r' hr') with⟨x',q',h1',h2',_,_,e3',_⟩ | ⟨h1',_⟩
   ·rw[h1] at hs
    rw[h1'] at hs'
    have:=h.rsep x x' q q' v v' k (rowBack h2) (by rw[←e3]; exact ho) (rowBack h2') hs hs' (by rw[←e3]; exact hk) (by rw[←e3']; exact hk')
    subst this
    exact uT hX (by simp only[rN,h2]; rw[←e3,ho]; rfl) h1 h1'
   ·rw[h1'] at hs'
    cases hs'
    exact absurd hk' fq
  ·rw[h1] at hs
   cases hs
   exact absurd hk fq
 ·obtain⟨k,vs,h1,h2,h3,h4⟩:=h.fb b cs hb
  refine⟨k,vs,h1,h2,jX hg ?_ h3,h4⟩
  exact List.all_eq_true.1 hF cs (List.mem_of_getElem? hb)
 ·simp only[Mt.J] at e
  split at e<;>first | cases e; done | skip
  rename_i x hx
  exact h.gs.box k o x hz e
 ·simp only[Mt.J] at hs
  rcases eP (fsRow id r hr) with⟨x,q,h1,h2,_,_,e3,_⟩ | ⟨h1,_⟩
  ·rw[h1] at hs
   exact h.gs.row k o x q v hz (rowBack h2) hs (by rw[←e3]; exact hc) (by rw[←e3]; exact e)
  ·rw[h1] at hs
   cases hs
   exact fq e
 ·have hy':m.hd[id]? =some (.loop y):=by
   simp only[St.fs,fsOf,lpH] at hy
   split at hy
   ·rename_i y' hy'; cases hy; exact hy'
   ·cases hy
  obtain⟨x,h1,h2⟩:=lpAt hy'
  obtain⟨rf,o,h3,h4,h5,h6⟩:=h.gs.lp x y (by simp only[St.fs,fsOf,lpH,h2])
  exact⟨rf,o,h3,by simp only[Mt.J,h1]; exact h4,h5,h6⟩
 ·simp only[Mt.J]
  cases hs:m.hd[id]? with
  | none=>rw[noneSig (by rw[hs]; intros; simp) (by rw[hs]; intros; simp) (by rw[hs]; intros; simp)]
  | some ob=>
    cases ob with
    | row r=>simp[St.fs,fsOf,rowH,hs] at hF
    | gone=>simp[St.fs,fsOf,rowH,hs] at hF
    | loop y=>simp[St.fs,fsOf,lpH,hs] at hy
    | box cs ty=>
      obtain⟨x,ds,h1,h2,h3⟩:=boxAt hs
      rw[h1]; exact h.gs.nol x (sigRow h2 rfl) (by simp only[St.fs,fsOf,lpH,h2])
 ·simp only[Mt.J] at hs
  rcases eP (fsRow id r hr) with⟨x,q,h1,h2,_,_,e3,_⟩ | ⟨h1,_⟩
  ·rw[h1] at hs
   exact h.gs.ev x q v (rowBack h2) hs p hp
  ·rw[h1] at hs
   cases hs
   cases hp
def givE (v0:Nat) (θ:List E) (ρ:Env):Env:=
 ⟨fun i=>if v0≤i then(match θ[i-v0]? with | some t=>t.I ρ | none=>0) else ρ.i i,fun i=>if v0≤i then(match θ[i-v0]? with | some t=>t.B ρ | none=>false) else ρ.b i,fun i=>if v0≤i then(match θ[i-v0]? with | some t=>t.R ρ | none=>[]) else ρ.l i⟩
theorem wV (v0:Nat) (vks:List VK) (θ:List E) (ρ:Env):Giv v0 vks θ ρ (givE v0 θ ρ):=by
 refine⟨fun i hi=> ?_,fun m k t _ ht=> ?_,fun m t _ ht=> ?_,fun m ks t _ ht=> ?_⟩
 ·have:¬v0≤i:=by omega
  simp[givE,this]
 all_goals simp[givE,ht]
theorem iU {vk:List VK}:∀{vks:List VK} {θ:List E},rngθ vk vks θ=true→θ.length=vks.length
 | [],[],_=>rfl
 | .int k::ks,e::es,h=>by simp only[rngθ,Bool.and_eq_true] at h; simp[iU h.2]
 | .bool::ks,e::es,h=>by simp only[rngθ] at h; simp[iU h]
 | .list k::ks,e::es,h=>by simp only[rngθ,Bool.and_eq_true] at h; simp[iU h.2]
 | .int _::_,[],h=>by cases h
 | .bool::_,[],h=>by cases h
 | .list _::_,[],h=>by cases h
theorem me {vk:List VK} (hv:Vk ρ vk):∀{vks:List VK} {θ:List E},rngθ vk vks θ=true→(∀(i:Nat) ks t,vks[i]? =some (.list ks)→θ[i]? =some t→(t.R ρ).length≤maxLen)→okDs vks ((argE vks θ).D ρ)
 | [],[],_,_=>trivial
 | .int k::ks,e::es,h,hl=>by
   simp only[rngθ,Bool.and_eq_true] at h
   exact⟨E.rng_ok hv e h.1,me hv h.2 (fun i k t h1 h2=>hl (i+1) k t (by simpa using h1) (by simpa using h2))⟩
 | .bool::ks,e::es,h,hl=>by
   simp only[rngθ] at h
   refine⟨?_,me hv h (fun i k t h1 h2=>hl (i+1) k t (by simpa using h1) (by simpa using h2))⟩
   show b2i (e.B ρ)=0∨b2i (e.B ρ)=1
   cases e.B ρ<;>simp[b2i]
 | .list k::ks,e::es,h,hl=>by
   simp only[rngθ,Bool.and_eq_true] at h
   exact⟨⟨E.lok_ok hv e h.1,hl 0 k e rfl rfl⟩,me hv h.2 (fun i k t h1 h2=>hl (i+1) k t (by simpa using h1) (by simpa using h2))⟩
 | .int _::_,[],h,_=>by cases h
 | .bool::_,[],h,_=>by cases h
 | .list _::_,[],h,_=>by cases h
theorem rL {v0:Nat} {hd:List Ob}:∀{vks:List VK} {n:Nat},pE v0 hd n vks=true→∀(i:Nat) ks,vks[i]? =some (.list ks)→∃r:RowOb,.row r∈hd∧r.l=.lvar (v0+(n+i))
 | [],n,_,i,ks,hi=>by simp at hi
 | k::l,n,h,i,ks,hi=>by
   cases i with
   | zero=>
     simp only[List.getElem?_cons_zero,Option.some.injEq] at hi
     subst hi
     simp only[pE,Bool.and_eq_true,List.any_eq_true] at h
     obtain⟨ob,h1,h2⟩:=h.1
     split at h2
     ·rename_i r
      rw[Bool.and_eq_true] at h2
      have h3:=h2.1
      split at h3
      ·rename_i m hm
       exact⟨r,h1,by rw[hm,Nat.eq_of_beq_eq_true h3]; rfl⟩
      ·cases h3
     ·cases h2
   | succ i=>
     have h':pE v0 hd (n+1) l=true:=by
      cases k<;>first | exact h | (simp only[pE,Bool.and_eq_true] at h; exact h.2)
     obtain⟨r,h1,h2⟩:=rL h' i ks (by simpa using hi)
     exact⟨r,h1,by rw[h2]; congr 1; omega⟩
theorem sZ {cx:Cx} {vk:List VK} {tmps:TM} {s:St} {n:Nat} {X:List Value} {W0:Wb} {w:World} {a:Act} (hok:m.ok cx vk tmps s=true) (hv:Vk ρ vk) (h:Rel ρ n X W0 cx.fbs s.fs j a w):m.θ.length=m.vks.length∧okDs m.vks ((argE m.vks m.θ).D ρ):=by
 have hrel:=gc hok (wV m.v0 m.vks m.θ ρ) h
 simp only[Mt.ok,Bool.and_eq_true] at hok
 obtain⟨_,_,_,hR,hL⟩:=hok
 refine⟨iU hR,me hv hR (fun i ks t hi ht=> ?_)⟩
 obtain⟨r,h1,h2⟩:=rL hL i ks hi
 obtain⟨b,hb,he⟩:=List.getElem_of_mem h1
 have hrow:(St.mk tmps m.hd).fs.row b=some (some r):=by simp[St.fs,fsOf,rowH,List.getElem?_eq_getElem hb,he]
 obtain⟨v,_,h3⟩:=hrel.row b r hrow
 have h4:=h3.rows.len
 rw[h2,Nat.zero_add] at h4
 have h5:=(wV m.v0 m.vks m.θ ρ).l i ks t hi ht
 simp only[E.R] at h4
 rw[h5] at h4
 exact h4
end
end Go.Proofs.Ytghiofgomcihcaa
