import Derived.Test.YtghiofgomcihcaaSyL
set_option linter.unusedVariables false
set_option linter.unusedSimpArgs false
namespace Go.Proofs.Ytghiofgomcihcaa
open Go.RowKit
def dA (o:Oper) (ms:List Nat):Nat:=
 o.after.toList.foldl (fun m e=>if Region.binds .any e then m ||| (2 ^ e.on ||| ms.getD e.on 0) else m) 0
def mm (ops:Array Oper) (r:Rec) (m:Nat):Nat→List Rec→Bool
 | _,[]=>true
 | k,x::pre=>(m.testBit k||yQ ops x r)&&mm ops r m (k+1) pre
def ordK (ops:Array Oper):List Rec→Nat→List Rec→List Nat→Bool
 | [],_,_,_=>true
 | r::l,i,pre,ms=>
   (r.o.after.toList.all fun e=>!Region.binds .any e||decide (e.on<i))&&(mm ops r (dA r.o ms) 0 pre&&ordK ops l (i+1) (pre++[r]) (ms++[dA r.o ms]))
section
variable {ops:Array Oper}
theorem mu {ms:List Nat} {k:Nat}:∀(l:List Edge) (m0:Nat),(l.foldl (fun m e=>if Region.binds .any e then m ||| (2 ^ e.on ||| ms.getD e.on 0) else m) m0).testBit k=true→
  m0.testBit k=true∨∃e∈l,Region.binds .any e=true∧(k=e.on∨(ms.getD e.on 0).testBit k=true)
 | [],m0,h=>.inl h
 | e::l,m0,h=>by
   simp only[List.foldl_cons] at h
   rcases mu l _ h with h1 | ⟨e',h1,h2⟩
   ·split at h1
    ·rename_i hb
     rw[Nat.testBit_or,Nat.testBit_or,Nat.testBit_two_pow,Bool.or_eq_true,Bool.or_eq_true,decide_eq_true_eq] at h1
     rcases h1 with h1 | h1 | h1
     ·exact .inl h1
     ·exact .inr ⟨e,List.mem_cons_self,hb,.inl h1.symm⟩
     ·exact .inr ⟨e,List.mem_cons_self,hb,.inr h1⟩
    ·exact .inl h1
   ·exact .inr ⟨e',List.mem_cons_of_mem _ h1,h2⟩
theorem ri {r:Rec} {m:Nat}:∀(pre:List Rec) (k0:Nat),mm ops r m k0 pre=true→∀(k:Nat) x,pre[k]? =some x→m.testBit (k0+k)=true∨Indep ops x r
 | y::pre,k0,h,k,x,hk=>by
   simp only[mm,Bool.and_eq_true,Bool.or_eq_true] at h
   cases k with
   | zero=>
     simp only[List.getElem?_cons_zero,Option.some.injEq] at hk
     subst hk
     exact h.1.imp id rO
   | succ k=>
     have:=ri pre (k0+1) h.2 k x (by simpa using hk)
     rwa [Nat.add_assoc,Nat.add_comm 1 k] at this
 | [],_,_,k,x,hk=>by simp at hk
theorem wm (hidx:∀(i:Nat) r,∀L:List Rec,ops.toList=L.map (·.o)→L[i]? =some r→ops[i]? =some r.o):∀(post pre:List Rec) (ms:List Nat),ops.toList=(pre++post).map (·.o)→ordK ops post pre.length pre ms=true→ms.length=pre.length→
  (∀(i:Nat),i<ms.length→∀k,(ms.getD i 0).testBit k=true→∀sel,dd ops sel→(∀o,ops[i]? =some o→∀e∈o.after,Region.binds .any e=true→sel e.on=true)→sel k=true)→
  (∀(i:Nat) r,pre.length≤i→(pre++post)[i]? =some r→∀e∈r.o.after,Region.binds .any e=true→e.on<i)∧
  (∀(k i:Nat) x r,k<i→pre.length≤i→(pre++post)[k]? =some x→(pre++post)[i]? =some r→Indep ops x r∨∀sel,dd ops sel→(∀o,ops[i]? =some o→∀e∈o.after,Region.binds .any e=true→sel e.on=true)→sel k=true)
 | [],pre,ms,hl,h,hm,hms=>by
   have none:∀(i:Nat) r,pre.length≤i→¬(pre++[])[i]? =some r:=fun i r hi hr=>by
    rw[List.append_nil,List.getElem?_eq_none hi] at hr; cases hr
   exact⟨fun i r hi hr=>absurd hr (none i r hi),fun k i x r _ hi _ hr=>absurd hr (none i r hi)⟩
 | r0::post,pre,ms,hl,h,hm,hms=>by
   simp only[ordK,Bool.and_eq_true] at h
   obtain⟨h1,h2,h3⟩:=h
   have e1:pre++r0::post=(pre++[r0])++post:=by simp
   have at0:ops[pre.length]? =some r0.o:=hidx pre.length r0 _ hl (by simp)
   have hmask:∀k,(dA r0.o ms).testBit k=true→∀sel,dd ops sel→(∀o,ops[pre.length]? =some o→∀e∈o.after,Region.binds .any e=true→sel e.on=true)→sel k=true:=by
    intro k hk sel hc he
    rcases mu _ 0 hk with h4 | ⟨e,h4,h5,h6⟩
    ·simp at h4
    ·have h4':e∈r0.o.after:=by simpa using h4
     have hs:=he _ at0 e h4' h5
     rcases h6 with rfl | h6
     ·exact hs
     ·rcases Nat.lt_or_ge e.on ms.length with h7 | h7
      ·exact hms e.on h7 k h6 sel hc (fun o ho e' he' hb=>hc e.on o ho hs e' he' hb)
      ·rw[List.getD_eq_getElem?_getD,List.getElem?_eq_none h7] at h6
       simp at h6
   obtain⟨g1,g2⟩:=wm hidx post (pre++[r0]) (ms++[dA r0.o ms]) (by rw[←e1]; exact hl) (by simpa using h3) (by simp[hm]) (fun i hi k hk=>by
    rcases Nat.lt_or_ge i ms.length with h4 | h4
    ·rw[List.getD_eq_getElem?_getD,List.getElem?_append_left h4,←List.getD_eq_getElem?_getD] at hk
     exact hms i h4 k hk
    ·have:i=ms.length:=by simp at hi; omega
     subst this
     rw[List.getD_eq_getElem?_getD,List.getElem?_append_right (Nat.le_refl _)] at hk
     simp only[Nat.sub_self,List.getElem?_cons_zero,Option.getD_some] at hk
     rw[hm]
     exact hmask k hk)
   rw[e1]
   refine⟨fun i r hi hr=> ?_,fun k i x r hk hi hx hr=> ?_⟩
   ·rcases Nat.lt_or_ge pre.length i with h4 | h4
    ·exact g1 i r (by simp; omega) hr
    ·have:i=pre.length:=by omega
     subst this
     have:r=r0:=by simpa using hr.symm
     subst this
     intro e he hb
     have:=List.all_eq_true.1 h1 e (by simpa using he)
     simpa[hb] using this
   ·rcases Nat.lt_or_ge pre.length i with h4 | h4
    ·exact g2 k i x r hk (by simp; omega) hx hr
    ·have:i=pre.length:=by omega
     subst this
     have:r=r0:=by simpa using hr.symm
     subst this
     rw[←e1,List.getElem?_append_left hk] at hx
     rcases ri pre 0 h2 k x hx with h5 | h5
     ·rw[Nat.zero_add] at h5
      exact .inr (hmask k h5)
     ·exact .inl h5
end
def yN (f:St→Kw→(Sig→St→Kw→Tr)→Tr):Nat→St→Kw→(Sig→St→Kw→Tr)→Tr
 | 0,_,_,_=>.stuck 73
 | n+1,s,kw,k=>f s kw fun sg s kw=>match sg with
   | .normal=>yN f n s kw k
   | sg=>k sg s kw
def fid:Code→Option Nat
 | .region id _ _=>some id
 | .seq a b=>(match fid a with | some i=>some i | none=>fid b)
 | .block _ c=>fid c
 | .loop c=>fid c
 | .cond _ x y=>(match fid x with | some i=>some i | none=>fid y)
 | _=>none
def zN (c:Code) (l:List (Nat×List Pl)):Option (Nat×List Pl):=match fid c with
 | some i=>(af i l).map (i,·)
 | none=>none
def Kw.head (kw:Kw) (vks:List VK):Kw:=⟨kw.pc.filter fun p=>p.1.sc kw.vk.length,[],kw.vk++vks,kw.lv+1⟩
def yI (cx:Cx) (lv v0:Nat) (vks:List VK) (hd:St) (h0:Nat) (pls:List Pl) (s:St) (kw:Kw):Tr:=match argL pls s with
 | some (θ,ex)=>if Mt.ok ⟨v0,vks,θ,h0,ex,hd.heap⟩ cx kw.vk hd.tmps s then .next lv (argE vks θ) else .stuck 110
 | none=>.stuck 111
abbrev ClK:=Nat→List V→St→Kw→(V→St→Kw→Tr)→Tr
def yB:Nat:=1000000
structure RfS where
 ps:Array Nat
 assign:Code
 body:Code
 dep:Nat
 len:Nat
 hints:List (Nat×List Pl)
 cuts:List (Nat×List Pl)
abbrev RlK:=RfS→ClK
def mr (heap:List Ob):Bool:=heap.all Ob.noLp
def ke:Operand→Bool
 | .const (.slice none 0 0)=>true
 | _=>false
def abz (cx:Cx) (o:Oper):Bool:=match o.op with
 | .next _ false=>true
 | .binOp .eql _ _ y _=>ke y
 | .call c=>(match cx.fns with
   | []=>false
   | _::_=>match c.callee with
     | .value (.func g)=>!(cx.sm.any fun s=>Nat.beq s.f g)
     | .value (.tmp _)=>true
     | _=>false)
 | _=>false
def cB:Nat→List Oper→List (Nat×Oper)
 | _,[]=>[]
 | i,o::l=>(i,o)::cB (i+1) l
def gq (cx:Cx):List (Nat×Oper)→Option (Nat×Oper)
 | []=>none
 | p::l=>if abz cx p.2 then some p else gq cx l
def av (ops:Array Oper):List Nat:=ops.toList.foldl (fun ms o=>ms++[dA o ms]) []
def capV:Option (Bool×Nat×Nat)→V
 | none=>.one .nilp
 | some (true,b,o)=>.one (.ptr b o)
 | some (false,b,o)=>.one (.fp b o)
def inlK (cl:ClK) (o:Oper) (g:Nat) (args:List V) (s:St) (kw:Kw) (k:St→Kw→Tr):Tr:=
 cl g args s kw fun v s' kw'=>match o.dst with
  | none=>k s' kw'
  | some d=>if Nat.blt d s'.n then k ⟨s'.tmps.set d v,s'.heap⟩ kw' else .stuck 60
def ac5 (cx:Cx) (s:St) (kw:Kw) (o:Oper):Bool:=
 match o.op with
 | .call c=>match c.callee with
   | .value f=>match evS s.n s.tmps f,evL (evS s.n s.tmps) c.args.toList with
     | some (.one (.fn g)),some args=>(lm kw.vk (s.vw cx) g args cx.sm).isSome
     | _,_=>false
   | _=>false
 | _=>false
def sI (s:St) (kw:Kw):Mt:=⟨kw.vk.length,[],[],s.heap.length,[],s.heap⟩
def nilE (l:E) (v:Nat):E:=.not (.and (.eq (.var v) (.lit 0)) (.lt (.lit 0) (aY l)))
def nilK (cx:Cx) (o:Oper) (xt id:Nat) (s:St) (kw:Kw) (k:St→Kw→Tr):Tr:=
 match rwS s.heap id,af xt cx.ty with
 | some r,some i=>
   if r.kd.isSl&&(i.sle.isSome&&Mt.ok (sI s kw) cx kw.vk s.tmps s) then
    .any kw.vk.length (nilE r.l kw.vk.length) (match s.app o.dst {val:=.one (.bool (.eq (.var kw.vk.length) (.lit 0)))} with
     | some s'=>k s' (kw.head [.int .i64])
     | none=>.stuck 60)
   else .stuck 191
 | _,_=>.stuck 192
def goK (cl:ClK) (cx:Cx) (o:Oper) (s:St) (kw:Kw) (k:St→Kw→Tr):Tr:=
 match o.op with
 | .binOp .eql xt x y _=>if ke y then(match evS s.n s.tmps x with
   | some (.one (.sl id))=>nilK cx o xt id s kw k
   | some (.one .nsl)=>(match af xt cx.ty with
     | some i=>if i.sle.isSome then(match s.app o.dst {val:=.one (.bool (.tt true))} with
       | some s'=>k s' kw
       | none=>.stuck 60) else .stuck 193
     | none=>.stuck 193)
   | _=>.stuck 194) else .stuck 195
 | .call c=>match c.callee with
   | .value f=>match evS s.n s.tmps f,evL (evS s.n s.tmps) c.args.toList with
     | some (.one (.fn g)),some args=>if Nat.blt g yB then inlK cl o g args s kw k else .stuck 208
     | some (.one (.clo g fs ps)),some args=>if Nat.blt g yB then inlK cl o g (fs.map capV++args++ps.map capV) s kw k else .stuck 208
     | some (.one (.yld id)),some args=>inlK cl o (yB+id) args s kw k
     | _,_=>.stuck 123
   | _=>.stuck 124
 | .next x false=>match evS s.n s.tmps x with
   | some (.one (.itp id mid))=>.stuck 301
   | _=>.stuck 158
 | _=>.stuck 125
def xU (o:Oper) (s:St) (kw:Kw) (k:St→Kw→Tr):Tr:=match s.app o.dst {val:=.one .undef} with
 | some s'=>k s' kw
 | none=>.stuck 60
def barK (cl:ClK) (cx:Cx) (ops:Array Oper) (o:Oper) (s:St) (kw:Kw) (k:St→Kw→Tr):Tr:=
 if ac5 cx s kw o then opsK cx ops [o] s kw fun _ s kw=>k s kw else
 match o.guard with
 | none=>goK cl cx o s kw k
 | some (g,b)=>match((ops[g]?).bind (·.dst)).bind (fun t=>if Nat.blt t s.n then s.tmps.get? t else none) with
   | some (.one (.bool e))=>decK e (fun x kw=>if x==b then goK cl cx o s kw k else xU o s kw k) kw
   | some (.one .undef)=>xU o s kw k
   | _=>.stuck 61
def regS (cl:ClK) (cx:Cx) (ops:Array Oper):List Oper→St→Kw→(St→Kw→Tr)→Tr
 | [],s,kw,k=>k s kw
 | o::l,s,kw,k=>if abz cx o then barK cl cx ops o s kw fun s kw=>regS cl cx ops l s kw k
   else opsK cx ops [o] s kw fun _ s kw=>regS cl cx ops l s kw k
def ac7 (ops:Array Oper) (sel:Nat→Bool) (i:Nat) (o:Oper):Bool:=
 (cB 0 ops.toList).all fun p=>Nat.beq p.1 i||(sel p.1||((p.2.after.toList.any fun e=>Region.binds .any e&&Nat.beq e.on i)||o.apart ops p.2))
def xb (cx:Cx) (ops:Array Oper) (sel:Nat→Bool) (i:Nat) (o:Oper):Bool:=
 o.guard.isNone&&((match o.op with
  | .move _=>true
  | .assign _=>true
  | .fieldAddr s _ f=>(match af s cx.ty with
    | some i=>(i.fields[f]?).isSome
    | none=>false)
  | .indexAddr _ _ _=>true
  | .nilCheck _=>true
  | .slice _ _ _ _ _=>true
  | _=>false)&&(Region.noSelect ops&&ac7 ops sel i o))
def bp (ms:List Nat) (i k:Nat):Bool:=(ms.getD i 0).testBit k
def rj (ops:Array Oper) (ms:List Nat) (p:Nat×Rec):List (Nat×Rec)→Bool
 | []=>true
 | q::l=>(bp ms p.1 q.1||yQ ops q.2 p.2)&&rj ops ms p l
def iJ (ops:Array Oper) (ms:List Nat):List (Nat×Rec)→List (Nat×Rec)→Bool
 | _,[]=>true
 | pre,p::l=>rj ops ms p pre&&iJ ops ms (pre++[p]) l
def sJ (cx:Cx) (ops:Array Oper) (ms:List Nat) (L:List (Nat×Rec)) (outs:List (Nat×Oper)):Bool:=
 iJ ops ms [] L&&((L.all fun p=>p.2.o.after.toList.all fun e=>!Region.binds .any e||(Nat.blt e.on p.1&&(outs.all fun q=>!Nat.beq q.1 e.on)))&&
  (outs.all fun q=>L.all fun p=>bp ms q.1 p.1||xb cx ops (fun k=>!(outs.any fun q=>Nat.beq q.1 k) &&!(L.any fun q=>Nat.beq q.1 k &&!Nat.blt k p.1)) p.1 p.2.o))
def lz (ops:Array Oper):Bool:=(ops.toList.all fun o=>match o.op with | .defer _=>false | _=>true)&&(cB 0 ops.toList).all fun p=>p.2.after.toList.all fun e=>!Region.binds .any e||Nat.blt e.on p.1
def acA (o:Oper):Bool:=match o.op with
 | .move _=>true
 | .assign _=>true
 | .fieldAddr _ _ _=>true
 | .indexAddr _ _ _=>true
 | .nilCheck _=>true
 | .slice _ _ _ _ _=>true
 | _=>false
def regD (cl:ClK) (cx:Cx) (ops:Array Oper) (ms:List Nat):Nat→List (Nat×Oper)→St→Kw→(St→Kw→Tr)→Tr
 | 0,_,_,_,_=>.stuck 126
 | m+1,todo,s,kw,k=>match gq cx todo with
   | none=>opsK cx ops (todo.map (·.2)) s kw fun rs s' kw'=>if sJ cx ops ms ((todo.map (·.1)).zip rs) [] then k s' kw' else .stuck 70
   | some (ci,co)=>
     let A:=todo.filter fun p=>!Nat.beq p.1 ci &&!bp ms p.1 ci
     let B:=todo.filter fun p=>bp ms p.1 ci &&!Nat.beq p.1 ci
     match A.find? (fun p=>!bp ms ci p.1 &&!acA p.2) with
     | none=>opsK cx ops (A.map (·.2)) s kw fun rs s' kw'=>if sJ cx ops ms ((A.map (·.1)).zip rs) ((ci,co)::B) then
      barK cl cx ops co s' kw' fun s kw=>regD cl cx ops ms m B s kw k
       else .stuck 127
     | some u=>
       let A0:=A.filter fun p=>!Nat.beq p.1 u.1 &&!bp ms p.1 u.1
       let R:=todo.filter fun p=>!(A0.any fun q=>Nat.beq q.1 p.1)
       opsK cx ops (A0.map (·.2)) s kw fun rs s' kw'=>if sJ cx ops ms ((A0.map (·.1)).zip rs) R&&Mt.ok (sI s' kw') cx kw'.vk s'.tmps s' then
        .both kw'.vk.length (opsK cx ops [u.2] s' (kw'.head []) fun _ s2 kw2=>regD cl cx ops ms m (R.filter fun p=>!Nat.beq p.1 u.1) s2 kw2 k)
         (barK cl cx ops co s' (kw'.head []) fun s2 kw2=>regD cl cx ops ms m (R.filter fun p=>!Nat.beq p.1 ci) s2 kw2 k)
       else .stuck 127
def oW (v:Option V) (id:Nat):Option (Nat×List V):=match v with
 | some (.one (.fn g))=>some (g,[.one (.yld id)])
 | some (.one (.clo g fs ps))=>some (g,fs.map capV++[.one (.yld id)]++ps.map capV)
 | _=>none
def cF (cl:ClK) (rl:Option RlK) (cx:Cx) (fuel:Nat):Code→St→Kw→(Sig→St→Kw→Tr)→Tr
 | .skip,s,kw,k=>k .normal s kw
 | .label _,s,kw,k=>k .normal s kw
 | .region _ ops draw,s,kw,k=>match gq cx (cB 0 ops.toList) with
   | none=>opsK cx ops ops.toList s kw fun rs s' kw'=>
     if draw then(if ordK ops rs 0 [] [] then k .normal s' kw' else .stuck 70) else k .normal s' kw'
   | some _=>if draw then if lz ops then regD cl cx ops (av ops) (ops.size+1) (cB 0 ops.toList) s kw (k .normal) else .stuck 128 else regS cl cx ops ops.toList s kw (k .normal)
 | .seq a b,s,kw,k=>match zN b cx.cuts with
   | none=>cF cl rl cx fuel a s kw fun sg s kw=>match sg with
     | .normal=>cF cl rl cx fuel b s kw k
     | sg=>k sg s kw
   | some (id,pls)=>match pls with
     | [.ask]=>cF cl rl cx fuel a s kw fun sg s kw=>match sg with
       | .normal=>.at id s
       | sg=>k sg s kw
     | pls=>match absL kw.vk.length pls (s,[]) with
       | some (hd,vks)=>.cut kw.lv kw.vk.length vks
        (cF cl rl cx fuel a s {kw with lv:=kw.lv+1} fun sg s' kw'=>match sg with
         | .normal=>yI cx kw.lv kw.vk.length vks hd s.heap.length pls s' kw'
         | sg=>k sg s' kw')
        (cF cl rl cx fuel b hd (kw.head vks) k)
       | none=>.stuck 114
 | .cond c x y,s,kw,k=>match evS s.n s.tmps c with
   | some (.one (.bool e))=>decK e (fun t kw=>if t then cF cl rl cx fuel x s kw k else cF cl rl cx fuel y s kw k) kw
   | _=>.stuck 71
 | .block id c,s,kw,k=>cF cl rl cx fuel c s kw fun sg s kw=>match sg with
   | .exit i=>if Nat.beq i id then k .normal s kw else k (.exit i) s kw
   | sg=>k sg s kw
 | .loop c,s,kw,k=>match zN c cx.hints with
   | none=>yN (cF cl rl cx fuel c) fuel s kw k
   | some (id,pls)=>match pls with
     | [.ask]=>.at id s
     | pls=>match absL kw.vk.length pls (s,[]),argL pls s with
       | some (hd,vks),some (θ,ex)=>
         if Mt.ok ⟨kw.vk.length,vks,θ,s.heap.length,ex,hd.heap⟩ cx kw.vk hd.tmps s then
          .loop kw.lv kw.vk.length vks (argE vks θ) (cF cl rl cx fuel c hd (kw.head vks) fun sg s' kw'=>match sg with
           | .normal=>yI cx kw.lv kw.vk.length vks hd s.heap.length pls s' kw'
           | sg=>k sg s' kw')
         else .stuck 112
       | _,_=>.stuck 113
 | .exit id,s,kw,k=>k (.exit id) s kw
 | .ret,s,kw,k=>k .ret s kw
 | .scope c,s,kw,k=>cF cl rl cx fuel c s kw k
 | .rangeFunc f ps assign body,s,kw,k=>match rl,oW (evS s.n s.tmps f) s.heap.length with
   | some rl,some (g,args)=>if Nat.blt g yB&&mr s.heap then
    rl ⟨ps,assign,body,bV s.tmps.old,s.n,cx.hints,cx.cuts⟩ g args ⟨s.tmps,s.heap++[.loop ⟨.ready,none⟩]⟩ kw fun _ s' kw'=>match s'.heap[s.heap.length]? with
     | some (.loop y)=>(match y.st with
       | .busy=>.stuck 201
       | _=>if mr (s'.heap.set s.heap.length .gone) then(match y.pend with
         | none=>k .normal ⟨s'.tmps,s'.heap.set s.heap.length .gone⟩ kw'
         | some .normal=>.stuck 207
         | some sg=>k sg ⟨s'.tmps,s'.heap.set s.heap.length .gone⟩ kw') else .stuck 202)
     | _=>.stuck 203
     else .stuck 204
   | _,_=>.stuck 205
 | _,_,_,_=>.stuck 72
def Sig.exit':Sig→Exit
 | .normal=>.normal
 | .exit id=>.exit id
 | .ret=>.ret
section
variable {P:Program} {sp:Spec} {ρ:Env} {G:Env→E→Prop} {I:Nat→List Dt→Prop} {cx:Cx} {n:Nat} {X:List Value} {W0:Wb}
structure At (cx:Cx) (ρ:Env) (n:Nat) (X:List Value) (W0:Wb) (s:St) (j:J) (a:Act) (w:World):Prop where
 rel:Rel ρ n X W0 cx.fbs s.fs j a w
 len:s.tmps.length=n+X.length
 own:s.n=n
theorem zM {ops:Array Oper} (i:Nat) (r:Rec) (L:List Rec) (hl:ops.toList=L.map (·.o)) (hi:L[i]? =some r):ops[i]? =some r.o:=by
 rw[←Array.getElem?_toList,hl,List.getElem?_map,hi]; rfl
theorem sq {v0:Nat} {p:Pl} {x y:St×List VK} (h:absP v0 p x=some y):y.1.tmps.length=x.1.tmps.length∧y.1.n=x.1.n:=by
 unfold absP at h
 cases p<;>dsimp only at h<;>first
  | (split at h<;>first | (cases h; exact⟨rfl,rfl⟩) | cases h)
  | (rw[Option.map_eq_some_iff] at h; obtain⟨_,_,rfl⟩:=h; exact⟨rfl,rfl⟩)
  | (cases h; exact⟨rfl,rfl⟩)
  | cases h
theorem eL {v0:Nat}:∀{l:List Pl} {x y:St×List VK},absL v0 l x=some y→y.1.tmps.length=x.1.tmps.length∧y.1.n=x.1.n
 | [],x,y,h=>by cases h; exact⟨rfl,rfl⟩
 | p::l,x,y,h=>by
   simp only[absL,Option.bind_eq_some_iff] at h
   obtain⟨z,h1,h2⟩:=h
   rw[(eL h2).1,(eL h2).2,(sq h1).1,(sq h1).2]
   exact⟨rfl,rfl⟩
theorem gj {ρ':Env} {kw:Kw} {vks:List VK} (hg:Good sp cx.sm ρ kw) (ha:Ag kw.vk.length ρ ρ') (hd:okDs vks (ah ρ' kw.vk.length vks)):Good sp cx.sm ρ' (kw.head vks):=by
 refine⟨fun p hp=> ?_,?_,fun p hp=>by cases hp⟩
 ·have h1:=List.mem_filter.1 hp
  rw[←(E.sc_eq ha p.1 (by simpa using h1.2)).2.1]
  exact hg.pc p h1.1
 ·have key:∀(vks:List VK) (n:Nat),okDs vks (ah ρ' n vks)→(∀(i:Nat) k,vks[i]? =some (.int k)→inK k (ρ'.i (n+i))=true)∧∀(i:Nat) ks,vks[i]? =some (.list ks)→RowsIn ks (ρ'.l (n+i)):=by
   intro vks
   induction vks with
   | nil=>intro n _; exact⟨fun i k h=>by simp at h,fun i k h=>by simp at h⟩
   | cons x l ih=>
     intro n h
     obtain⟨h1,h2⟩:=h
     obtain⟨i1,i2⟩:=ih (n+1) h2
     refine⟨fun i k hk=> ?_,fun i ks hk=> ?_⟩
     ·cases i with
      | zero=>simp at hk; subst hk; exact h1
      | succ i=>
        have:=i1 i k (by simpa using hk)
        rwa [show n+(i+1)=n+1+i by omega]
     ·cases i with
      | zero=>simp at hk; subst hk; exact h1
      | succ i=>
        have:=i2 i ks (by simpa using hk)
        rwa [show n+(i+1)=n+1+i by omega]
  obtain⟨k1,k2⟩:=key vks _ hd
  constructor
  ·intro i k hk
   rcases Nat.lt_or_ge i kw.vk.length with hlt | hge
   ·simp only[Kw.head] at hk
    rw[List.getElem?_append_left hlt] at hk
    rw[←(ha i hlt).1]; exact hg.vk.i i k hk
   ·simp only[Kw.head] at hk
    rw[List.getElem?_append_right hge] at hk
    have:=k1 _ k hk
    rwa [show kw.vk.length+(i-kw.vk.length)=i by omega] at this
  ·intro i k hk
   rcases Nat.lt_or_ge i kw.vk.length with hlt | hge
   ·simp only[Kw.head] at hk
    rw[List.getElem?_append_left hlt] at hk
    rw[←(ha i hlt).2.2]; exact hg.vk.l i k hk
   ·simp only[Kw.head] at hk
    rw[List.getElem?_append_right hge] at hk
    have:=k2 _ k hk
    rwa [show kw.vk.length+(i-kw.vk.length)=i by omega] at this
def xI (cx:Cx) (n:Nat) (X:List Value) (W0:Wb) (ρ:Env) (v0:Nat) (vks:List VK) (hd:St) (ds:List Dt) (a:Act) (w:World):Prop:=
 ∃j,∀ρ',Ag v0 ρ ρ'→ah ρ' v0 vks=ds→At cx ρ' n X W0 hd j a w
theorem kW {ρ2:Env} {v0:Nat} {vks:List VK} {θ:List E} {h0:Nat} {ex:List (Option Nat)} {hd s:St} {vk:List VK} {j:J} {a:Act} {w:World} (hok:Mt.ok ⟨v0,vks,θ,h0,ex,hd.heap⟩ cx vk hd.tmps s=true) (hv:Vk ρ2 vk) (hl:hd.tmps.length=n+X.length∧hd.n=n) (ha:Ag v0 ρ ρ2) (hr:At cx ρ2 n X W0 s j a w):
  okDs vks ((argE vks θ).D ρ2)∧xI cx n X W0 ρ v0 vks hd ((argE vks θ).D ρ2) a w:=by
 obtain⟨h1,h2⟩:=sZ hok hv hr.rel
 refine⟨h2,_,fun ρ3 h3 h4=>⟨gc hok (acC (ha.symm.trans h3) h1 h4) hr.rel,hl.1,hl.2⟩⟩
theorem rA {ρ2:Env} {lv v0:Nat} {vks:List VK} {h0:Nat} {pls:List Pl} {hd s:St} {kw:Kw} {j:J} {a:Act} {w:World} (h:(yI cx lv v0 vks hd h0 pls s kw).holds sp G ρ2 I) (hv:Vk ρ2 kw.vk) (hl:hd.tmps.length=n+X.length∧hd.n=n) (ha:Ag v0 ρ ρ2) (hr:At cx ρ2 n X W0 s j a w):
  ∃ds,I lv ds∧okDs vks ds∧xI cx n X W0 ρ v0 vks hd ds a w:=by
 unfold yI at h
 split at h
 ·split at h
  ·rename_i hok
   obtain⟨h1,h2⟩:=kW hok hv hl ha hr
   exact⟨_,h,h1,h2⟩
  ·exact h.elim
 ·exact h.elim
def Tie (ry:Option RfS) (X:List Value) (W0:Wb):Prop:=match ry with
 | none=>True
 | some r=>∃(rf:Rf) (A B:List Value),W0.rf=some rf∧rf.ps=r.ps∧rf.assign=r.assign∧rf.body=r.body∧rf.tmps.size=r.len∧X=A++(rf.tmps.toList++B)∧B.length=r.dep
theorem Tie.more {ry:Option RfS} {X:List Value} {W0:Wb} (h:Tie ry X W0) (L:List Value):Tie ry (L++X) W0:=by
 cases ry with
 | none=>trivial
 | some r=>
   obtain⟨rf,A,B,h1,h2,h3,h4,h5,h6,h7⟩:=h
   exact⟨rf,L++A,B,h1,h2,h3,h4,h5,by rw[h6,List.append_assoc],h7⟩
structure CallOk (P:Program) (sp:Spec) (G:Env→E→Prop) (cx:Cx) (ry:Option RfS) (cl:ClK):Prop where
 call:∀(g:Nat) (args:List V) (s:St) (kw:Kw) (k:V→St→Kw→Tr) (R:Value→World→Prop) (ρ:Env) (I:Nat→List Dt→Prop) (n:Nat) (X:List Value) (W0:Wb) (j:J) (a:Act) (w:World) (vals:List Value),g<yB→
  (cl g args s kw k).holds sp G ρ I→Good sp cx.sm ρ kw→At cx ρ n X W0 s j a w→Tie ry (a.tmps.toList++X) W0→vals.length=args.length→(∀(i:Nat) x,args[i]? =some x→∃u,vals[i]? =some u∧x.den ρ j=some u)→
  (∀v s' kw' ρ' I' j' w' u,(k v s' kw').holds sp G ρ' I'→Good sp cx.sm ρ' kw'→Ag kw.vk.length ρ ρ'→(∀m,m<kw.lv→I' m=I m)→kw.lv≤kw'.lv→kw.vk.length≤kw'.vk.length→v.den ρ' j'=some u→At cx ρ' n X W0 s' j' a w'→R u w')→
  (callFunc g vals.toArray).run P w=.ok (.enter g vals.toArray) w∧Calls P g vals.toArray w fun e w'=>∃u,e=.returned u∧R u w'
 yld:∀(id:Nat) (args:List V) (s:St) (kw:Kw) (k:V→St→Kw→Tr) (R:Value→World→Prop) (ρ:Env) (I:Nat→List Dt→Prop) (n:Nat) (X:List Value) (W0:Wb) (j:J) (a:Act) (w:World) (vals:List Value) (l:Nat),
  (cl (yB+id) args s kw k).holds sp G ρ I→Good sp cx.sm ρ kw→At cx ρ n X W0 s j a w→Tie ry X W0→j.g.y id=some l→vals.length=args.length→(∀(i:Nat) x,args[i]? =some x→∃u,vals[i]? =some u∧x.den ρ j=some u)→
  (∀v s' kw' ρ' I' j' w' u,(k v s' kw').holds sp G ρ' I'→Good sp cx.sm ρ' kw'→Ag kw.vk.length ρ ρ'→(∀m,m<kw.lv→I' m=I m)→kw.lv≤kw'.lv→kw.vk.length≤kw'.vk.length→v.den ρ' j'=some u→At cx ρ' n X W0 s' j' a w'→R u w')→
  ∃f tmps assign body,(Instr.yield l vals.toArray).run P w=.ok (.round l f tmps assign body) w∧∀ro,RoundIn (Fw ro) 0 P l f tmps assign body w fun e w'=>∃u,e=.returned u∧R u w'
def ClOk (P:Program) (sp:Spec) (G:Env→E→Prop) (cx:Cx) (ry:Option RfS) (cl:ClK) (X:List Value) (W0:Wb):Prop:=CallOk P sp G cx ry cl∧Tie ry X W0
structure Nx (kw kw':Kw) (ρ ρ':Env) (I I':Nat→List Dt→Prop):Prop where
 ag:Ag kw.vk.length ρ ρ'
 inv:∀m,m<kw.lv→I' m=I m
 lv:kw.lv≤kw'.lv
 vk:kw.vk.length≤kw'.vk.length
theorem Nx.refl (kw:Kw) (ρ:Env) (I:Nat→List Dt→Prop):Nx kw kw ρ ρ I I:=⟨.refl _ _,fun _ _=>rfl,Nat.le_refl _,Nat.le_refl _⟩
theorem Nx.of {kw kw':Kw} (h:KwGe kw' kw) (ρ:Env) (I:Nat→List Dt→Prop):Nx kw kw' ρ ρ I I:=⟨.refl _ _,fun _ _=>rfl,by rw[h.lv]; exact Nat.le_refl _,h.vk⟩
theorem Nx.trans {a b c:Kw} {ρ ρ' ρ'':Env} {I I' I'':Nat→List Dt→Prop} (h:Nx a b ρ ρ' I I') (h':Nx b c ρ' ρ'' I' I''):Nx a c ρ ρ'' I I'':=
 ⟨h.ag.trans (h'.ag.mono h.vk),fun m hm=>(h'.inv m (Nat.lt_of_lt_of_le hm h.lv)).trans (h.inv m hm),Nat.le_trans h.lv h'.lv,Nat.le_trans h.vk h'.vk⟩
end
end Go.Proofs.Ytghiofgomcihcaa
