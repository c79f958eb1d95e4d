import Derived.Test.YtfkhblmeioiciaaGreatDoorSyZd
import Derived.DeepKeys
import Derived.ChangeSlices
import Derived.ChangeSame
import Derived.ChangeArms
import Derived.Deep.Slices
set_option maxRecDepth 100000
set_option maxHeartbeats 8000000
set_option linter.defProp false
set_option linter.unusedVariables false
set_option linter.unusedSimpArgs false
namespace Go.Proofs.YtfkhblmeioiciaaGreatDoor
open Go.RowKit
def zQ (cx:Cx) (s:St):ResultVar->Option (Bool×List C)
 | .tmp t=>match evS s.n s.tmps (.tmp t) with
   | some (.one c)=>some (false,[c])
   | some (.agg cs)=>some (true,cs)
   | _=>none
 | .cell t ty=>match evS s.n s.tmps (.tmp t),av ty cx.ty with
   | some (.one (.ptr b o)),some i=>if i.agg then(rowS s.heap b o i.size).map (true,·) else(ldS s.heap b o).map (false,[·])
   | _,_=>none
def resL (cx:Cx) (s:St):List ResultVar->Option (List (Bool×List C))
 | []=>some []
 | r::l=>match zQ cx s r,resL cx s l with
   | some x,some xs=>some (x::xs)
   | _,_=>none
def abB (vk:List VK) (heap:List Ob):CK->C->E->Option E
 | .int k,.int k' e,t=>if aZ k k'&&e.rng vk k then some (.cons e t) else none
 | .bool,.bool e,t=>some (.cb e t)
 | .fn g,.fn g',t=>if Nat.beq g g' then some (.cons (.lit 0) t) else none
 | .nf,.nf,t=>some (.cons (.lit 0) t)
 | .sl ks ty,.sl id,t=>match rwS heap id with
   | some r=>if r.own&&(r.kd.fits r.ks&&(bQ r.ks ks&&Nat.beq r.ty ty)) then some (.cL r.l t) else none
   | none=>none
 | .sl ks _,.nsl,t=>(match ks with | []=>none | _::_=>some (.cL .ln t))
 | _,_,_=>none
def lP (vk:List VK) (heap:List Ob):List CK->List C->E->Option E
 | [],[],t=>some t
 | k::ks,c::cs,t=>(lP vk heap ks cs t).bind (abB vk heap k c)
 | _,_,_=>none
def aoJ (heap:List Ob):CK->C->E->Option E
 | .int k,.int k' e,t=>if aZ k k' then some (.cons e t) else none
 | .bool,.bool e,t=>some (.cb e t)
 | .fn g,.fn g',t=>if Nat.beq g g' then some (.cons (.lit 0) t) else none
 | .nf,.nf,t=>some (.cons (.lit 0) t)
 | .sl ks ty,.sl id,t=>match rwS heap id with
   | some r=>if r.own&&(r.kd.fits r.ks&&(bQ r.ks ks&&Nat.beq r.ty ty)) then some (.cL r.l t) else none
   | none=>none
 | .sl ks _,.nsl,t=>(match ks with | []=>none | _::_=>some (.cL .ln t))
 | _,_,_=>none
theorem ajL {vk:List VK} {heap:List Ob} {k:CK} {c:C} {t e:E} (hc:c.rng vk=true) (h:aoJ heap k c t=some e):abB vk heap k c t=some e:=by
 unfold aoJ at h
 split at h
 ·rename_i k1 k2 x
  split at h
  ·rename_i h1
   obtain rfl:=az h1
   have h2:x.rng vk k1=true:=hc
   simp[abB,h1,h2];exact Option.some.inj h
  ·cases h
 all_goals first | exact h | cases h
def aaC (heap:List Ob):List CK->List C->E->Option E
 | [],[],t=>some t
 | k::ks,c::cs,t=>(aaC heap ks cs t).bind (aoJ heap k c)
 | _,_,_=>none
theorem vN {vk:List VK} {heap:List Ob}:∀{ks:List CK} {cs:List C} {t e:E},cs.all (C.rng vk)=true->aaC heap ks cs t=some e->lP vk heap ks cs t=some e
 | [],[],_,_,_,h=>h
 | k::ks,c::cs,t,e,hr,h=>by
   simp only[List.all_cons,thm0] at hr
   simp only[aaC,bJ] at h
   obtain⟨e1,h1,h2⟩:=h
   simp only[lP,bJ]
   exact⟨e1,vN hr.2 h1,ajL hr.1 h2⟩
def abA (vk:List VK) (heap:List Ob) (ks:List CK) (cs:List C) (t:E):Option E:=bif rngs vk cs vk 0 then aaC heap ks cs t else none
theorem pW {vk:List VK} {heap:List Ob} {ks:List CK} {cs:List C} {t e:E} (h:abA vk heap ks cs t=some e):lP vk heap ks cs t=some e:=by
 unfold abA at h
 cases hr:rngs vk cs vk 0 with
 | false=>rw[hr] at h;cases h
 | true=>rw[hr] at h;exact vN (rngs_ok cs vk 0 rfl hr) h
def oO (vk:List VK) (heap:List Ob):List Sh->List (Bool×List C)->Option E
 | [],[]=>some .nil
 | .one k::ss,(false,[c])::l=>(oO vk heap ss l).bind (abA vk heap [k] [c])
 | .agg ks::ss,(true,cs)::l=>(oO vk heap ss l).bind (abA vk heap ks cs)
 | _,_=>none
def oidL:List CK->List C->List (Option Nat)
 | .sl _ _::ks,.sl id::cs=>some id::oidL ks cs
 | .sl _ _::ks,_::cs=>none::oidL ks cs
 | _::ks,_::cs=>oidL ks cs
 | _,_=>[]
def oids:List Sh->List (Bool×List C)->List (Option Nat)
 | s::ss,(_,cs)::l=>oidL s.cks cs++oids ss l
 | _,_=>[]
def lI:List (Option Nat)->Bool
 | []=>true
 | none::l=>lI l
 | some a::l=>(l.all fun x=>match x with | some b=>!Nat.beq a b | none=>true)&&lI l
def evAt (heap:List Ob) (id:Nat):Bool:=match rwS heap id with
 | some r=>r.kd.isEv
 | none=>false
def svOf (heap:List Ob) (j:J):Option Nat->SV
 | some id=>if evAt heap id then(j.s id).getD nilSV else {(j.s id).getD nilSV with z:=[]}
 | none=>nilSV
theorem ac8 (heap:List Ob) (j:J) (id:Nat):(svOf heap j (some id)).v=((j.s id).getD nilSV).v:=by
 cases h:evAt heap id<;>simp only[svOf,h]<;>rfl
def ace:List (Bool×List C)->V
 | [(true,cs)]=>.agg cs
 | [(false,[c])]=>.one c
 | xs=>.tup xs
def oI (dep:Nat):List (TT×Nat)->Option (TT×Nat)
 | []=>none
 | (t,n)::l=>if Nat.beq (df l) dep then some (t,n) else oI dep l
def ahU (tm:TM):List Nat->List V->Option TM
 | [],[]=>some tm
 | p::ps,v::vs=>if Nat.blt p tm.n then ahU (tm.set p v) ps vs else none
 | _,_=>none
def rndK (cl:ClK) (cx:Cx) (fuel:Nat) (r:RfS) (id:Nat) (args:List V) (s:St) (kw:Kw) (k:V->St->Kw->Tr):Tr:=
 match s.heap[id]?,oI r.dep s.tmps.old with
 | some (.loop y),some (t,n)=>
   if Nat.beq n r.len&&(LS.same y.st .ready&&sq (s.heap.set id .gone)) then
    match ahU ⟨t,n,(s.tmps.cur,s.tmps.n)::s.tmps.old⟩ r.ps.toList args with
    | some tm=>dU cl none cx fuel r.assign ⟨tm,s.heap⟩ kw fun sg s1 kw1=>match sg with
      | .normal=>(match s1.heap[id]? with
        | some (.loop y1)=>if LS.same y1.st .ready&&sq (s1.heap.set id .gone) then
         dU cl none cx fuel r.body ⟨s1.tmps,s1.heap.set id (.loop ⟨.busy,y1.pend⟩)⟩ kw1 fun sg s2 kw2=>match s2.heap[id]? with
          | some (.loop _)=>if(Nat.beq s2.tmps.old.length (s.tmps.old.length+1)&&Nat.beq s2.tmps.pop.n s.n)&&sq (s2.heap.set id .gone) then(match sg with
           | .normal=>k (.one (.bool (.tt true))) ⟨s2.tmps.pop,s2.heap.set id (.loop ⟨.ready,none⟩)⟩ kw2
           | sg=>k (.one (.bool (.tt false))) ⟨s2.tmps.pop,s2.heap.set id (.loop ⟨.done,some sg⟩)⟩ kw2) else .stuck 210
          | _=>.stuck 211
          else .stuck 212
        | _=>.stuck 213)
      | _=>.stuck 214
    | none=>.stuck 215
   else .stuck 216
 | _,_=>.stuck 217
def yn (fuel:Nat):Nat->Cx->Option RfS->ClK
 | 0,_,_,_,_,_,_,_=>.stuck 120
 | d+1,cx,ry,g,args,s,kw,k=>if Nat.blt g yB then(match av g cx.fns with
   | none=>.stuck (200000+g)
   | some (fn,hints,cuts)=>match fn.body with
     | some c=>if fn.name== "runtime.NumGoroutine" then .stuck 121 else
       dU (yn fuel d {cx with hints:=hints,cuts:=cuts} ry) none {cx with hints:=hints,cuts:=cuts} fuel c ⟨s.tmps.push args (args.length+(fn.ntmps-args.length)),s.heap⟩ kw fun sg s' kw'=>match sg with
        | .exit _=>.stuck 80
        | _=>match resL cx s' fn.results.toList with
          | some xs=>if Nat.beq s'.tmps.old.length (s.tmps.old.length+1)&&Nat.beq s'.tmps.pop.n s.n then k (ace xs) ⟨s'.tmps.pop,s'.heap⟩ kw' else .stuck 129
          | none=>.stuck 81
     | none=>.stuck 122)
   else match ry with
    | some r=>rndK (yn fuel d {cx with hints:=r.hints,cuts:=r.cuts} (some r)) {cx with hints:=r.hints,cuts:=r.cuts} fuel r (g-yB) args s kw k
    | none=>.stuck 209
def funK (cx:Cx) (fuel:Nat) (fn:Func) (args:List V) (heap:List Ob) (kw:Kw):Tr:=
 match fn.body with
 | some c=>dU (yn fuel 12 cx none) (some fun r=>yn fuel 12 cx (some r)) cx fuel c ⟨TM.push args (args.length+(fn.ntmps-args.length)) ⟨.leaf (.one .undef),0,[]⟩,heap⟩ kw fun sg s kw=>match sg with
   | .exit _=>.stuck 80
   | _=>match resL cx s fn.results.toList with
     | some xs=>match oO kw.vk s.heap cx.res xs with
       | some e=>if lI (oids cx.res xs) then .leaf e else .stuck 83
       | none=>.stuck 84
     | none=>.stuck 81
 | none=>.stuck 82
section
variable {P:Program} {sp:Spec} {U:Env} {G:Env->E->Prop} {I:Nat->List Dt->Prop} {cx:Cx} {n:Nat} {X:List Value} {W0:Wb}
theorem vt:∀{l:List (Option Nat)},lI l=true->∀(i i':Nat) b,l[i]? =some (some b)->l[i']? =some (some b)->i=i'
 | [],_,i,i',b,h,_=>by simp at h
 | x::l,h,i,i',b,hi,hi'=>by
   have key:lI l=true/\∀b,x=some b->∀i:Nat,l[i]? ≠some (some b):=by
    cases x with
    | none=>exact⟨h,fun b hb=>by cases hb⟩
    | some a=>
      simp only[lI,thm0] at h
      refine⟨h.2,fun b hb i hi=> ?_⟩
      cases hb
      have:=thm7.1 h.1 _ (ez hi)
      simp at this
   cases i with
   | zero=>
     simp at hi
     cases i' with
     | zero=>rfl
     | succ i'=>exact absurd (by simpa using hi') (key.2 b hi i')
   | succ i=>
     cases i' with
     | zero=>
       simp at hi'
       exact absurd (by simpa using hi) (key.2 b hi' i)
     | succ i'=>rw[vt key.1 i i' b (by simpa using hi) (by simpa using hi')]
theorem ajh {j:J} {a:Act} {w:World} {s:St} (h:Rel U n X W0 cx.fbs s.fs j a w) {b:Nat}:∀(m o:Nat),RdOk U j w (ldS s.heap) (cP b o m):=by
 intro m o p hp c hc
 rw[<-xQ] at hc
 obtain⟨k',v,h1,h2,h3,_⟩:=mm h (b:=p.1) (o:=p.2) (c:=c) hc
 exact⟨k',v,h1,h2,h3⟩
theorem gL {j:J}:∀{cs:List (Bool×List C)} {vs:List Value},bD U j cs=some vs->vs.length=cs.length
 | [],vs,h=>by cases h;rfl
 | c::cs,vs,h=>by
   simp only[bD] at h
   cases hc:den0 U j c with
   | none=>rw[hc] at h;cases h
   | some v=>
     cases hl:bD U j cs with
     | none=>rw[hc,hl] at h;cases h
     | some l=>rw[hc,hl] at h;cases h;simp[gL hl]
def jV (tmps:Array Value):ResultVar->Sem Value
 | .tmp t=>pure (tmps.getD t undef)
 | .cell a t=>do loadVar t (<-asAddr (tmps.getD a undef))
theorem abf (fn:Func) (tmps:Array Value):results fn tmps=(do let vs <-fn.results.mapM (jV tmps);pure (if h:vs.size=1 then vs[0] else .tuple vs)):=by
 unfold results
 congr 2
theorem afI (hT:∀t i,(t,i)∈cx.ty->TIok P t i) {j:J} {a:Act} {w:World} {s:St} (h:At cx U n X W0 s j a w) {r:ResultVar} {x:Bool×List C} (hx:zQ cx s r=some x):
  ∃v,den0 U j x=some v/\(jV a.tmps r).run P w=.ok v w:=by
 have tmpv:∀t u,evS s.n s.tmps (.tmp t)=some u->u.den U j=some (a.tmps.getD t undef):=fun t u hu=>h.ev (x:=.tmp t) hu
 cases r with
 | tmp t=>
   simp only[zQ] at hx
   split at hx
   ·rename_i c hc
    cases hx
    exact⟨_,tmpv t _ hc,by simp[jV]⟩
   ·rename_i cs hc
    cases hx
    exact⟨_,tmpv t _ hc,by simp[jV]⟩
   ·cases hx
 | cell t ty=>
   simp only[zQ] at hx
   split at hx
   ·rename_i b o i hb hi
    obtain⟨kk,hk,hp⟩:=ke (tmpv t _ hb)
    have ht:=hT _ _ (an hi)
    split at hx
    ·rename_i hagg
     rw[thm4] at hx
     obtain⟨cs,hcs,rfl⟩:=hx
     obtain⟨vs,h1,h2⟩:=cG (P:=P) hk i.size o cs (afA _ _ _ _ hcs) w (ajh h.rel i.size o) ⟨kk,o,none⟩ 0 #[] (fun m=>by rw[ba];simp)
     refine⟨.agg vs.toArray,by simp[den0,h1],?_⟩
     simp[jV,hp,asAddr,Sem.run_bind,loadVar,ht.agg,hagg,ht.size,loadCells,h2]
    ·rename_i hagg
     rw[thm4] at hx
     obtain⟨c,hc,rfl⟩:=hx
     rw[<-xQ] at hc
     obtain⟨k',v,h1,h2,h3,_⟩:=mm h.rel (b:=b) (o:=o) (c:=c) hc
     rw[hk] at h1;cases h1
     have hagg':i.agg=false:=by simpa using hagg
     refine⟨v,h2,?_⟩
     simp[jV,hp,asAddr,Sem.run_bind,loadVar,ht.agg,hagg',load,Sem.run,h3]
   ·cases hx
theorem afJ (hT:∀t i,(t,i)∈cx.ty->TIok P t i) {j:J} {a:Act} {w:World} {s:St} (h:At cx U n X W0 s j a w):∀(l:List ResultVar) (xs:List (Bool×List C)),resL cx s l=some xs->
  ∃vs,bD U j xs=some vs/\vs.length=l.length/\(l.mapM (jV a.tmps)).run P w=.ok vs w
 | [],xs,hx=>by cases hx;exact⟨[],rfl,rfl,by simp⟩
 | r::l,xs,hx=>by
   simp only[resL] at hx
   split at hx
   ·rename_i x ys h1 h2
    cases hx
    obtain⟨v,h3,h4⟩:=afI hT h h1
    obtain⟨vs,h5,h6,h7⟩:=afJ hT h l ys h2
    refine⟨v::vs,by simp[bD,h3,h5],by simp[h6],?_⟩
    rw[List.mapM_cons]
    simp only[Sem.run_bind]
    rw[h4]
    simp only[Result.andThen_ok,h7]
    simp
   ·cases hx
theorem pA (hT:∀t i,(t,i)∈cx.ty->TIok P t i) {j:J} {a:Act} {w:World} {s:St} (h:At cx U n X W0 s j a w) {fn:Func} {xs:List (Bool×List C)} (hx:resL cx s fn.results.toList=some xs):
  ∃vs,bD U j xs=some vs/\(results fn a.tmps).run P w=.ok (if h:vs.toArray.size=1 then vs.toArray[0] else .tuple vs.toArray) w:=by
 obtain⟨vs,h1,h2,h3⟩:=afJ hT h _ xs hx
 refine⟨vs,h1,?_⟩
 rw[abf,Sem.run_bind,Array.mapM_eq_mapM_toList]
 rw[show(Functor.map List.toArray (List.mapM (jV a.tmps) fn.results.toList):Sem (Array Value))=(do let l <-List.mapM (jV a.tmps) fn.results.toList;pure l.toArray) from rfl]
 simp[Sem.run_bind,h3]
theorem dg {α:Type} {ds:List α} {n:Nat} {x:α} {r:List α} (h:ds.drop n=x::r):ds[n]? =some x/\ds.drop (n+1)=r:=by
 have h1:ds[n]? =some x:=by
  have:=congrArg (·[0]?) h
  simpa using this
 refine⟨h1,?_⟩
 have:=congrArg List.tail h
 simpa using this
structure Res1 (hp:List Ob) (U:Env) (j:J) (w0 w:World) (ks:List CK) (ids:List (Option Nat)) (vs:List Value) (e t:E):Prop where
 len:ids.length=(ks.filter CK.isSl).length
 rng:fc ks (e.D U)
 at':∀ds n,ds.drop n=e.D U->ds.drop (n+ks.length)=t.D U/\∀(U':Env) v0,eqs U' ds v0 n ks->
  (∀id (j':J),(∀(i:Nat) u,ids[i]? =some u->j'.s (id+i)=some (svOf hp j u))->denL U' j' (aE v0 n id ks)=some vs)/\
  (∀(i:Nat) u r,ids[i]? =some u->(aS v0 n ks)[i]? =some r->RowOk U' w0.heap.size w (svOf hp j u) r)
theorem aoM {hp:List Ob} {U:Env} {j:J} {w0 w:World} {t:E}:Res1 hp U j w0 w [] [] [] t t:=
 ⟨rfl,trivial,fun ds n h=>⟨by simpa using h,fun U' v0 he=>⟨fun id j' h=>rfl,fun i u r h=>by simp at h⟩⟩⟩
theorem agL {ds:List Dt} {n:Nat} {x:Int} (h:ds[n]? =some (.z x)):dI ds n=x:=by simp[dI,h]
theorem ajQ {ds:List Dt} {n:Nat} {x:List (List Int)} (h:ds[n]? =some (.l x)):dL ds n=x:=by simp[dL,h]
theorem oV (b:Bool):(b2i b==1)=b:=by cases b<;>rfl
theorem ajK {vk:List VK} (hv:Vk U vk) {s:St} {j:J} {a:Act} {w:World} (h:Rel U n X W0 cx.fbs s.fs j a w) {k:CK} {c:C} {t e:E} (he:abB vk s.heap k c t=some e) {v:Value} (hd:c.den U j=some v) {ks:List CK} {ids:List (Option Nat)} {vs:List Value} {t0:E} (hr:Res1 s.heap U j W0.w w ks ids vs t t0) {cs:List C} (hids:ids=oidL ks cs):
  Res1 s.heap U j W0.w w (k::ks) (oidL (k::ks) (c::cs)) (v::vs) e t0:=by
 subst hids
 have plus:∀m:Nat,m+1+ks.length=m+(k::ks).length:=fun m=>by simp;omega
 unfold abB at he
 split at he
 ·rename_i k k' x
  split at he
  ·rename_i hk
   cases he
   simp only[thm0] at hk
   have:=az hk.1
   subst this
   cases hd
   refine⟨hr.len,⟨E.rng_ok hv x hk.2,hr.rng⟩,fun ds n' h1=> ?_⟩
   obtain⟨h2,h3⟩:=dg h1
   obtain⟨h4,h5⟩:=hr.at' ds (n'+1) h3
   refine⟨by rw[<-plus];exact h4,fun U' v0 heq=> ?_⟩
   obtain⟨h6,h7⟩:=h5 U' v0 heq.2
   refine⟨fun id j' hj=> ?_,h7⟩
   simp only[aE,denL,C.den,E.I,h6 id j' hj,heq.1,agL h2]
  ·cases he
 ·rename_i x
  cases he
  cases hd
  refine⟨hr.len,hr.rng,fun ds n' h1=> ?_⟩
  obtain⟨h2,h3⟩:=dg h1
  obtain⟨h4,h5⟩:=hr.at' ds (n'+1) h3
  refine⟨by rw[<-plus];exact h4,fun U' v0 heq=> ?_⟩
  obtain⟨h6,h7⟩:=h5 U' v0 heq.2
  refine⟨fun id j' hj=> ?_,h7⟩
  have h8:U'.b (v0+n')=x.B U:=by rw[heq.1];simp only[dB,agL h2,oV]
  simp only[aE,denL,C.den,E.B,h6 id j' hj,h8]
 ·rename_i g g'
  split at he
  ·rename_i hg
   cases he
   have:=thm1 hg
   subst this
   cases hd
   refine⟨hr.len,hr.rng,fun ds n' h1=> ?_⟩
   obtain⟨h2,h3⟩:=dg h1
   obtain⟨h4,h5⟩:=hr.at' ds (n'+1) h3
   refine⟨by rw[<-plus];exact h4,fun U' v0 heq=> ?_⟩
   obtain⟨h6,h7⟩:=h5 U' v0 heq
   refine⟨fun id j' hj=> ?_,h7⟩
   simp only[aE,denL,C.den,h6 id j' hj]
  ·cases he
 ·cases he
  cases hd
  refine⟨hr.len,hr.rng,fun ds n' h1=> ?_⟩
  obtain⟨h2,h3⟩:=dg h1
  obtain⟨h4,h5⟩:=hr.at' ds (n'+1) h3
  refine⟨by rw[<-plus];exact h4,fun U' v0 heq=> ?_⟩
  obtain⟨h6,h7⟩:=h5 U' v0 heq
  refine⟨fun id j' hj=> ?_,h7⟩
  simp only[aE,denL,C.den,h6 id j' hj]
 ·rename_i ks0 ty id0
  split at he
  ·rename_i r hrw
   split at he
   ·rename_i hq
    cases he
    simp only[thm0] at hq
    obtain⟨ho,hsl,hk,ht⟩:=hq
    have hrw0:=hrw
    rw[<-kS] at hrw
    obtain⟨sv,h1,h2⟩:=h.row id0 r (fA hrw)
    simp only[C.den,h1,Option.map_some,bh] at hd
    subst hd
    have e1:=bM hk
    have e2:=thm1 ht
    have e3:=RK.fits_eq hsl
    subst e1 e2
    have hsv:(svOf s.heap j (some id0)).v=sv.v:=by rw[ac8,h1];rfl
    refine⟨by simp[oidL,List.filter,CK.isSl,hr.len],⟨h2.rows,hr.rng⟩,fun ds n' h3=> ?_⟩
    obtain⟨h4,h5⟩:=dg h3
    obtain⟨h6,h7⟩:=hr.at' ds (n'+1) h5
    refine⟨by rw[<-plus];exact h6,fun U' v0 heq=> ?_⟩
    obtain⟨h8,h9⟩:=h7 U' v0 heq.2
    refine⟨fun id j' hj=> ?_,fun i u q hi hq'=> ?_⟩
    ·have h10:=hj 0 (some id0) rfl
     rw[Nat.add_zero] at h10
     have h11:=h8 (id+1) j' (fun i u hi=>by
      have:=hj (i+1) u (by simpa[oidL] using hi)
      rwa [show id+(i+1)=id+1+i by omega] at this)
     simp only[aE,denL,C.den,h10,Option.map_some,h11,hsv]
    ·cases i with
     | zero=>
       simp only[oidL,bK,bh] at hi
       simp only[aS,bK,bh] at hq'
       subst hi hq'
       have hR:(E.lw (v0+n')).R U'=r.l.R U:=by
        simp only[E.R]
        rw[heq.1,ajQ h4]
       rcases bC r.ks with⟨_,g2⟩ | ⟨_,g2⟩
       ·have hea:evAt s.heap id0=true:=by simp[evAt,hrw0,e3,g2,RK.isEv]
        have hev:svOf s.heap j (some id0)=sv:=by simp[svOf,hea,h1]
        rw[hev]
        exact RowOk.swap (q:=r) rfl rfl ho.symm hR (by rw[e3,g2];trivial) h2
       ·have hea:evAt s.heap id0=false:=by simp[evAt,hrw0,e3,g2,RK.isEv]
        have hev:svOf s.heap j (some id0)={sv with z:=[]}:=by simp[svOf,hea,h1]
        rw[hev]
        have h2:=h2.1 (e3.trans g2)
        refine RowOk.mk_own g2 (by rw[hR];exact h2.n) (by rw[hR];exact h2.rows) h2.pos ?_
        rw[hR]
        exact h2.own ho
     | succ i=>exact h9 i u q (by simpa[oidL] using hi) (by simpa[aS] using hq')
   ·cases he
  ·cases he
 ·rename_i ks0 ty
  split at he
  ·cases he
  ·rename_i k0 ks1
   cases he
   cases hd
   have hrows:RowsIn (k0::ks1) []:=⟨fun r hr=>(by cases hr),by simp⟩
   refine⟨by simp[oidL,List.filter,CK.isSl,hr.len],⟨hrows,hr.rng⟩,fun ds n' h3=> ?_⟩
   obtain⟨h4,h5⟩:=dg h3
   obtain⟨h6,h7⟩:=hr.at' ds (n'+1) h5
   refine⟨by rw[<-plus];exact h6,fun U' v0 heq=> ?_⟩
   obtain⟨h8,h9⟩:=h7 U' v0 heq.2
   refine⟨fun id j' hj=> ?_,fun i u q hi hq'=> ?_⟩
   ·have h10:=hj 0 none rfl
    rw[Nat.add_zero] at h10
    have h11:=h8 (id+1) j' (fun i u hi=>by
     have:=hj (i+1) u (by simpa[oidL] using hi)
     rwa [show id+(i+1)=id+1+i by omega] at this)
    simp only[aE,denL,C.den,h10,Option.map_some,h11]
    rfl
   ·cases i with
    | zero=>
      simp only[oidL,bK,bh] at hi
      simp only[aS,bK,bh] at hq'
      subst hi hq'
      have hR:(E.lw (v0+n')).R U'=[]:=by
       simp only[E.R]
       rw[heq.1,ajQ h4]
       rfl
      rcases bC (k0::ks1) with⟨g1,g2⟩ | ⟨_,g2⟩
      ·exact EvOk.row ⟨g1,by rw[hR];rfl,by rw[hR];exact hrows,fun k hk=>absurd hk jc,fun _ p hp=>(by cases hp),[],by rw[hR];rfl,fun _=>by rw[hR];exact World.ownsRow_nil _ _ _ _,by rw[hR];exact RdRow.nil,fun i row x hr=>by rw[hR] at hr;simp at hr⟩ g2
      ·exact RowOk.mk_own g2 (by rw[hR];rfl) (by rw[hR];exact hrows) (by simp) (by rw[hR];exact World.ownsRow_nil _ _ _ _)
    | succ i=>exact h9 i u q (by simpa[oidL] using hi) (by simpa[aS] using hq')
 ·cases he
theorem vM {vk:List VK} (hv:Vk U vk) {s:St} {j:J} {a:Act} {w:World} (h:Rel U n X W0 cx.fbs s.fs j a w):∀{ks:List CK} {cs:List C} {t e:E},lP vk s.heap ks cs t=some e->∀{vs:List Value},denL U j cs=some vs->Res1 s.heap U j W0.w w ks (oidL ks cs) vs e t
 | [],[],t,e,he,vs,hd=>by cases he;cases hd;exact aoM
 | k::ks,c::cs,t,e,he,vs,hd=>by
   simp only[lP,bJ] at he
   obtain⟨e',h1,h2⟩:=he
   simp only[denL] at hd
   cases hc:c.den U j with
   | none=>rw[hc] at hd;cases hd
   | some v=>
     cases hl:denL U j cs with
     | none=>rw[hc,hl] at hd;cases hd
     | some l=>
       rw[hc,hl] at hd;cases hd
       exact ajK hv h h2 hc (vM hv h h1 hl) rfl
theorem aaB {vk:List VK} (hv:Vk U vk) {s:St} {j:J} {a:Act} {w:World} (h:Rel U n X W0 cx.fbs s.fs j a w) {ks:List CK} {cs:List C} {t e:E} (he:abA vk s.heap ks cs t=some e) {vs:List Value} (hd:denL U j cs=some vs):Res1 s.heap U j W0.w w ks (oidL ks cs) vs e t:=vM hv h (pW he) hd
structure Res2 (hp:List Ob) (U:Env) (j:J) (w0 w:World) (ss:List Sh) (ids:List (Option Nat)) (vs:List Value) (e:E):Prop where
 len:ids.length=((ss.flatMap (·.cks)).filter CK.isSl).length
 rng:fc (ss.flatMap (·.cks)) (e.D U)
 at':∀ds n,ds.drop n=e.D U->∀(U':Env) v0,eqs U' ds v0 n (ss.flatMap (·.cks))->
  (∀id (j':J),(∀(i:Nat) u,ids[i]? =some u->j'.s (id+i)=some (svOf hp j u))->bD U' j' (bk v0 n id ss)=some vs)/\
  (∀(i:Nat) u r,ids[i]? =some u->(aS v0 n (ss.flatMap (·.cks)))[i]? =some r->RowOk U' w0.heap.size w (svOf hp j u) r)
theorem fG {U:Env} {ds:List Dt} {v0:Nat}:∀(ks ks':List CK) (n:Nat),eqs U ds v0 n (ks++ks')->eqs U ds v0 n ks/\eqs U ds v0 (n+ks.length) ks'
 | [],ks',n,h=>⟨trivial,h⟩
 | k::ks,ks',n,h=>by
   have plus:n+1+ks.length=n+(k::ks).length:=by simp;omega
   cases k
   case int=>exact⟨⟨h.1,(fG ks ks' (n+1) h.2).1⟩,by rw[<-plus];exact(fG ks ks' (n+1) h.2).2⟩
   case bool=>exact⟨⟨h.1,(fG ks ks' (n+1) h.2).1⟩,by rw[<-plus];exact(fG ks ks' (n+1) h.2).2⟩
   case sl=>exact⟨⟨h.1,(fG ks ks' (n+1) h.2).1⟩,by rw[<-plus];exact(fG ks ks' (n+1) h.2).2⟩
   all_goals exact⟨(fG ks ks' (n+1) h).1,by rw[<-plus];exact(fG ks ks' (n+1) h).2⟩
theorem jW:∀{ks ks':List CK} {ds:List Dt},fc ks ds->fc ks' (ds.drop ks.length)->fc (ks++ks') ds
 | [],ks',ds,_,h=>by simpa using h
 | k::ks,ks',ds,h,h'=>by
   cases ds with
   | nil=>cases k<;>exact h.elim
   | cons d ds=>
     cases k
     case int=>cases d<;>first | exact⟨h.1,jW h.2 h'⟩ | exact h.elim
     case sl=>cases d<;>first | exact⟨h.1,jW h.2 h'⟩ | exact h.elim
     all_goals exact jW (ks:=ks) (ks':=ks') (ds:=ds) h h'
theorem ol {v0:Nat}:∀(ks ks':List CK) (n:Nat),aS v0 n (ks++ks')=aS v0 n ks++aS v0 (n+ks.length) ks'
 | [],ks',n=>rfl
 | k::ks,ks',n=>by
   have plus:n+1+ks.length=n+(k::ks).length:=by simp;omega
   cases k<;>simp only[List.cons_append,aS,ol ks ks' (n+1),plus]
theorem fB {v0:Nat}:∀(ks:List CK) (n:Nat),(aS v0 n ks).length=(ks.filter CK.isSl).length
 | [],n=>rfl
 | k::ks,n=>by cases k<;>simp[aS,List.filter,CK.isSl,fB ks (n+1)]
theorem Res2.cons {hp:List Ob} {j:J} {w0 w:World} {k:Sh} {ss:List Sh} {ids ids':List (Option Nat)} {us vs:List Value} {e t:E} {v:Value} (h1:Res1 hp U j w0 w k.cks ids us e t) (h2:Res2 hp U j w0 w ss ids' vs t)
  (hq:∀v0 n id,∃p,bk v0 n id (k::ss)=p::bk v0 (n+k.cks.length) (id+(k.cks.filter CK.isSl).length) ss/\∀(U':Env) (j':J),denL U' j' (aE v0 n id k.cks)=some us->den0 U' j' p=some v):Res2 hp U j w0 w (k::ss) (ids++ids') (v::vs) e:=by
 refine⟨by rw[List.flatMap_cons,List.filter_append,eA,eA,h1.len,h2.len],?_,fun ds n' hd U' v0 he=> ?_⟩
 ·rw[List.flatMap_cons]
  have h3:=(h1.at' (e.D U) 0 rfl).1
  rw[bn] at h3
  exact jW h1.rng (by rw[h3];exact h2.rng)
 ·rw[List.flatMap_cons] at he
  obtain⟨e1,e2⟩:=fG _ _ _ he
  obtain⟨d1,d2⟩:=h1.at' ds n' hd
  obtain⟨a1,a2⟩:=d2 U' v0 e1
  obtain⟨b1,b2⟩:=h2.at' ds (n'+k.cks.length) d1 U' v0 e2
  refine⟨fun id j' hj=> ?_,fun i u r hi hr=> ?_⟩
  ·obtain⟨p,p1,p2⟩:=hq v0 n' id
   rw[p1]
   have q1:=p2 U' j' (a1 id j' (fun i u hi=>hj i u (by
    rw[thm8 (bR.1 hi).1];exact hi)))
   have q2:=b1 (id+(k.cks.filter CK.isSl).length) j' (fun i u hi=>by
    have:=hj (ids.length+i) u (by rw[thm9 (by omega),Nat.add_sub_cancel_left];exact hi)
    rw[h1.len] at this
    rwa [Nat.add_assoc])
   simp only[bD,q1,q2]
  ·rw[List.flatMap_cons,ol] at hr
   rcases aV i ids.length with hlt | hge
   ·rw[thm8 hlt] at hi
    rw[thm8 (by rw[fB,<-h1.len];exact hlt)] at hr
    exact a2 i u r hi hr
   ·rw[thm9 hge] at hi
    rw[thm9 (by rw[fB,<-h1.len];exact hge),fB,<-h1.len] at hr
    exact b2 _ u r hi hr
theorem sJ {vk:List VK} (hv:Vk U vk) {s:St} {j:J} {a:Act} {w:World} (h:Rel U n X W0 cx.fbs s.fs j a w):∀{ss:List Sh} {xs:List (Bool×List C)} {e:E},oO vk s.heap ss xs=some e->∀{vs:List Value},bD U j xs=some vs->Res2 s.heap U j W0.w w ss (oids ss xs) vs e
 | ss,xs,e,he,vs,hd=>by
   unfold oO at he
   split at he
   ·cases he;cases hd
    exact⟨rfl,trivial,fun ds n h U' v0 he=>⟨fun id j' h=>rfl,fun i u r h=>by simp[oids] at h⟩⟩
   ·rename_i k ss c l
    rw[bJ] at he
    obtain⟨e',h1,h2⟩:=he
    simp only[bD] at hd
    cases hc:den0 U j (false,[c]) with
    | none=>rw[hc] at hd;cases hd
    | some v=>
      cases hl:bD U j l with
      | none=>rw[hc,hl] at hd;cases hd
      | some us=>
        rw[hc,hl] at hd;cases hd
        have hc':c.den U j=some v:=hc
        refine Res2.cons (k:=.one k) (aaB hv h h2 (vs:=[v]) (by simp[denL,hc'])) (sJ hv h h1 hl) (fun v0 n id=> ?_)
        refine⟨(false,aE v0 n id [k]),?_,fun U' j' hh=> ?_⟩
        ·simp only[bk,Sh.cks,List.length_singleton]
         congr 2
         cases k<;>simp[List.filter,CK.isSl]
        ·simp only[Sh.cks] at hh
         have:∃c',aE v0 n id [k]=[c']:=by cases k<;>exact⟨_,rfl⟩
         obtain⟨c',hc2⟩:=this
         rw[hc2] at hh ⊢
         simp only[denL] at hh
         simp only[den0]
         cases hx:c'.den U' j' with
         | none=>rw[hx] at hh;cases hh
         | some y=>rw[hx] at hh;simpa using hh
   ·rename_i ks ss cs l
    rw[bJ] at he
    obtain⟨e',h1,h2⟩:=he
    simp only[bD] at hd
    cases hc:den0 U j (true,cs) with
    | none=>rw[hc] at hd;cases hd
    | some v=>
      cases hl:bD U j l with
      | none=>rw[hc,hl] at hd;cases hd
      | some us=>
        rw[hc,hl] at hd;cases hd
        simp only[den0,thm4] at hc
        obtain⟨ws,hws,rfl⟩:=hc
        refine Res2.cons (k:=.agg ks) (aaB hv h h2 hws) (sJ hv h h1 hl) (fun v0 n id=> ?_)
        exact⟨(true,aE v0 n id ks),rfl,fun U' j' hh=>by simp[den0,Sh.cks] at hh ⊢;exact hh⟩
   ·cases he
theorem afH {U:Env} {j:J} {res:List Sh} {tup:Bool} {v0 nid:Nat} {vs:List Value} (ht:Nat.beq res.length 1 = !tup) (hl:vs.length=res.length) (h:bD U j (bk v0 0 nid res)=some vs):
  (eZ res tup v0 nid).den U j=some (if h:vs.toArray.size=1 then vs.toArray[0] else .tuple vs.toArray):=by
 cases tup with
 | true=>
   have hne:¬vs.length=1:=fun e=>by rw[hl] at e;simp[e] at ht
   simp[eZ,V.den,h,hne]
 | false=>
   have h1:res.length=1:=thm1 (by simpa using ht)
   match res,vs,h1,hl,h with
   | [r],[v],_,_,h=>
     unfold eZ
     rw[if_neg (by simp)]
     cases r with
     | one k=>
       have:∃c',aE v0 0 nid [k]=[c']:=by cases k<;>exact⟨_,rfl⟩
       obtain⟨c',hc⟩:=this
       simp only[bk,hc,bD,den0] at h ⊢
       cases hx:c'.den U j with
       | none=>rw[hx] at h;cases h
       | some y=>rw[hx] at h;cases h;simpa[V.den] using hx
     | agg ks=>
       simp only[bk,bD,den0] at h ⊢
       cases hx:denL U j (aE v0 0 nid ks) with
       | none=>rw[hx] at h;cases h
       | some y=>rw[hx] at h;cases h;simp[V.den,hx]
     | ptr ks=>
       simp only[bk,bD,den0,denL,C.den] at h ⊢
       cases h
       simp[V.den,denL,C.den]
theorem Res2.ret {hp:List Ob} {j:J} {w0 w:World} {ss:List Sh} {tup:Bool} {ids:List (Option Nat)} {vs:List Value} {e:E} (h:Res2 hp U j w0 w ss ids vs e) (ht:Nat.beq ss.length 1 = !tup) (hl:vs.length=ss.length) (hx:Ext w0 w)
  (hd:∀(i i':Nat) a b k,ids[i]? =some a->ids[i']? =some b->(svOf hp j a).v.ownBlock=some k->(svOf hp j b).v.ownBlock=some k->i=i') (hz:∀a∈ids,NewZ w0 w (ids.map (svOf hp j)) (svOf hp j a)):RetOk ss tup w0 w (e.D U) (if h:vs.toArray.size=1 then vs.toArray[0] else .tuple vs.toArray):=by
 have at0:=fun U' v0 he=>h.at' (e.D U) 0 rfl U' v0 he
 refine⟨hx,h.rng,ids.map (svOf hp j),by rw[List.length_map,h.len],fun U' v0 nid j' he hs=> ?_,fun U' v0 he i u r hu hr=> ?_,fun i i' u u' k hu hu' hk hk'=> ?_,fun u hu=> ?_⟩
 ·exact afH ht hl ((at0 U' v0 he).1 nid j' (fun i u hi=>hs i _ (by rw[jq,hi];rfl)))
 ·rw[jq,thm4] at hu
  obtain⟨a,ha,rfl⟩:=hu
  exact(at0 U' v0 he).2 i a r ha hr
 ·rw[jq,thm4] at hu hu'
  obtain⟨a,ha,rfl⟩:=hu
  obtain⟨b,hb,rfl⟩:=hu'
  exact hd i i' a b k ha hb hk hk'
 ·obtain⟨a,ha,rfl⟩:=List.mem_map.1 hu
  exact hz a ha
def clz (w:World) (k:Nat):Option Obj:=match w.heap[k]? with
 | some o=>if isCl o then some o else none
 | none=>none
theorem sN {w:World} {k:Nat} {o:Obj}:clz w k=some o↔w.heap[k]? =some o/\isCl o=true:=by
 unfold clz
 cases h:w.heap[k]? with
 | none=>simp
 | some o'=>
   cases hc:isCl o' with
   | true=>simp[hc];intro e;rw[<-e];exact hc
   | false=>simp[hc];intro e;rw[<-e];exact hc
structure Start (cx:Cx) (U:Env) (heap:List Ob) (j:J) (w:World):Prop where
 row:∀(b:Nat) ob,heap[b]? =some ob->∃r s,ob=.row r/\r.own=false/\j.s b=some s/\RowOk U w.heap.size w s r
 nos:∀b,heap.length<=b->j.s b=none
 nob:∀b,j.b b=none
 gh:j.g=⟨fun _=>none,clz w⟩
 zz:∀b s,j.s b=some s->∀p∈s.z,w.heap[p.1]? =some p.2/\isCl p.2=true
 fb:∀b cs,cx.fbs b=some cs->∃k vs,j.f b=some k/\k<w.heap.size/\denL U j cs=some vs/\∀(o:Nat) v,vs[o]? =some v->fW cs o=true->w.cell? ⟨k,o,none⟩=some v
theorem vq {vk:List VK} {heap:List Ob}:∀{ks:List CK} {cs:List C} {t e:E},lP vk heap ks cs t=some e->∀(i id:Nat),(oidL ks cs)[i]? =some (some id)->∃r,rwS heap id=some r/\r.own=true
 | [],[],t,e,_,i,id,hi=>by simp[oidL] at hi
 | k::ks,c::cs,t,e,he,i,id,hi=>by
   simp only[lP,bJ] at he
   obtain⟨e',h1,h2⟩:=he
   have ih:=vq h1
   unfold abB at h2
   split at h2
   ·exact ih i id hi
   ·exact ih i id hi
   ·exact ih i id hi
   ·exact ih i id hi
   ·rename_i id0
    split at h2
    ·rename_i r hr
     split at h2
     ·rename_i hq
      simp only[thm0] at hq
      cases i with
      | zero=>
        simp only[oidL,bK,bh] at hi
        subst hi
        exact⟨r,hr,hq.1⟩
      | succ i=>exact ih i id (by simpa[oidL] using hi)
     ·cases h2
    ·cases h2
   ·cases i with
    | zero=>simp[oidL] at hi
    | succ i=>exact ih i id (by simpa[oidL] using hi)
   ·cases h2
theorem aaf {vk:List VK} {heap:List Ob} {ks:List CK} {cs:List C} {t e:E} (he:abA vk heap ks cs t=some e):∀(i id:Nat),(oidL ks cs)[i]? =some (some id)->∃r,rwS heap id=some r/\r.own=true:=vq (pW he)
theorem gY {vk:List VK} {heap:List Ob}:∀{ss:List Sh} {xs:List (Bool×List C)} {e:E},oO vk heap ss xs=some e->∀(i id:Nat),(oids ss xs)[i]? =some (some id)->∃r,rwS heap id=some r/\r.own=true
 | ss,xs,e,he,i,id,hi=>by
   unfold oO at he
   split at he
   ·simp[oids] at hi
   ·rename_i k ss c l
    rw[bJ] at he
    obtain⟨e',h1,h2⟩:=he
    have hi':(oidL [k] [c]++oids ss l)[i]? =some (some id):=hi
    rcases aV i (oidL [k] [c]).length with hlt | hge
    ·rw[thm8 hlt] at hi'
     exact aaf h2 i id hi'
    ·rw[thm9 hge] at hi'
     exact gY h1 _ id hi'
   ·rename_i ks ss cs l
    rw[bJ] at he
    obtain⟨e',h1,h2⟩:=he
    have hi':(oidL ks cs++oids ss l)[i]? =some (some id):=hi
    rcases aV i (oidL ks cs).length with hlt | hge
    ·rw[thm8 hlt] at hi'
     exact aaf h2 i id hi'
    ·rw[thm9 hge] at hi'
     exact gY h1 _ id hi'
   ·cases he
theorem oN {vk:List VK} {heap:List Ob}:∀{ss:List Sh} {xs:List (Bool×List C)} {e:E},oO vk heap ss xs=some e->xs.length=ss.length
 | ss,xs,e,he=>by
   unfold oO at he
   split at he
   ·rfl
   ·rw[bJ] at he
    obtain⟨e',h1,_⟩:=he
    simp[oN h1]
   ·rw[bJ] at he
    obtain⟨e',h1,_⟩:=he
    simp[oN h1]
   ·cases he
theorem dd {P:Program} {f:FuncId} {fn:Func} (hf:P.funcs[f]? =some fn) (hname:(fn.name== "runtime.NumGoroutine")=false) (hb:fn.body.isNone=false) (args:Array Value) (w:World):(callFunc f args).run P w=.ok (.enter f args) w:=by
 have h1:fn.name≠ "runtime.NumGoroutine" :=by simpa using hname
 cases hc:fn.body with
 | none=>rw[hc] at hb;cases hb
 | some c=>simp[callFunc,hf,h1,hc,program,Sem.run_bind,Sem.run]
theorem acd {j:J} {xs:List (Bool×List C)} {vs:List Value} (h:bD U j xs=some vs):(ace xs).den U j=some (if h:vs.toArray.size=1 then vs.toArray[0] else .tuple vs.toArray):=by
 have tup:xs.length≠1->(V.tup xs).den U j=some (if h:vs.toArray.size=1 then vs.toArray[0] else .tuple vs.toArray):=fun hn=>by
  have hl:=gL h
  rw[dif_neg (by simpa[hl] using hn)]
  simp[V.den,h]
 match xs,h with
 | [],h=>exact tup (by simp)
 | [(true,cs)],h=>
   simp only[bD] at h
   cases hc:den0 U j (true,cs) with
   | none=>rw[hc] at h;cases h
   | some v=>rw[hc] at h;cases h;exact hc
 | [(false,[c])],h=>
   simp only[bD] at h
   cases hc:den0 U j (false,[c]) with
   | none=>rw[hc] at h;cases h
   | some v=>rw[hc] at h;cases h;exact hc
 | [(false,[])],h=>simp[bD,den0] at h
 | [(false,_::_::_)],h=>simp[bD,den0] at h
 | x::y::l,h=>
   have e:ace (x::y::l)=.tup (x::y::l):=by rcases x with⟨_ | _,_ | ⟨_,_ | ⟨_,_⟩⟩⟩<;>rfl
   rw[e]
   exact tup (by simp)
theorem aky {U':Env} {n2:Nat} {X:List Value} {W0:Wb} {s s':St} {j j':J} {a a':Act} {w w':World} (hr:At cx U n X W0 s j a w) (hr':At cx U' n2 (a.tmps.toList++X) {W0 with top:=false} s' j' a' w')
  (hck:(Nat.beq s'.tmps.old.length (s.tmps.old.length+1)&&Nat.beq s'.tmps.pop.n s.n)=true):At cx U' n X W0 ⟨s'.tmps.pop,s'.heap⟩ j' a w':=by
 rw[thm0] at hck
 have hasz:=hr.rel.size
 have hold:s'.tmps.old≠[]:=fun e=>by
  have:=thm1 hck.1
  rw[e] at this
  simp at this
 have hsn:s'.tmps.n=n2:=hr'.own
 have tmp0:∀i:Nat,(St.mk s'.tmps.pop s'.heap).fs.tmp i=s'.fs.tmp (n2+i):=fun i=>by
  simp only[St.fs,fsOf]
  rw[TM.pop_get hold,hsn]
 refine⟨⟨hr.rel.defers,hasz,fun t ht=> ?_,fun i v hi=> ?_,hr'.rel.box,hr'.rel.nob,hr'.rel.inj,hr'.rel.row,hr'.rel.nor,hr'.rel.sep,hr'.rel.rsep,hr'.rel.fb,hr'.rel.ext,⟨hr'.rel.gs.at',hr'.rel.gs.box,hr'.rel.gs.row,hr'.rel.gs.md,hr'.rel.gs.nd,hr'.rel.gs.lp,hr'.rel.gs.nol,hr'.rel.gs.ev,hr'.rel.gs.tb⟩⟩,?_,(thm1 hck.2).trans hr.own⟩
 ·have ht2:t<a.tmps.size:=by rw[hasz];exact ht
  refine⟨a.tmps[t],Array.getElem?_eq_getElem ht2,?_⟩
  rw[tmp0]
  exact hr'.rel.sav t _ (by rw[thm8 (by simpa using ht2),iJ];exact Array.getElem?_eq_getElem ht2)
 ·rw[tmp0]
  have:=hr'.rel.sav (n+i) v (by rw[thm9 (by simp[hasz])];simpa[hasz] using hi)
  exact this
 ·have h3:=hr'.len
  simp only[eA,Array.length_toList,hasz] at h3
  have h4:=TM.pop_length hold
  show s'.tmps.pop.length=_
  omega
theorem zV {X:List Value} {W0:Wb} {s:St} {j:J} {a:Act} {w:World} (hr:At cx U n X W0 s j a w) {F:Ua} {m:Nat} (at0:∀i:Nat,F.tmp (m+i)=s.fs.tmp i) (i:Nat) (v:Value) (hi:(a.tmps.toList++X)[i]? =some v):F.tmp (m+i)=.top\/(F.tmp (m+i)).den U j=some v:=by
 have hasz:=hr.rel.size
 rw[at0]
 rcases aV i n with h1 | h1
 ·rw[thm8 (by simpa[hasz] using h1)] at hi
  obtain⟨v',h2,h3⟩:=hr.rel.tmp i h1
  rw[iJ,h2] at hi
  cases hi
  exact h3
 ·rw[thm9 (by simpa[hasz] using h1)] at hi
  have:=hr.rel.sav _ v hi
  simp only[Array.length_toList,hasz] at this
  rw[show n+(i-n)=i by omega] at this
  exact this
theorem pQ {dep:Nat} {t:TT} {m:Nat}:∀{l:List (TT×Nat)},oI dep l=some (t,m)->∃off,off+(m+dep)=df l/\∀i,i<m->fM l (off+i)=some (t.get i)
 | [],h=>by cases h
 | (t0,n0)::l,h=>by
   simp only[oI] at h
   split at h
   ·rename_i hb
    cases h
    exact⟨0,by rw[<-thm1 hb];simp[df],fun i hi=>by rw[bn];simp[fM,hi]⟩
   ·obtain⟨off,h1,h2⟩:=pQ h
    refine⟨n0+off,by simp only[df];omega,fun i hi=> ?_⟩
    simp only[fM]
    rw[if_neg (by omega),show n0+off+i-n0=off+i by omega]
    exact h2 i hi
theorem aji {X:List Value} {W0:Wb} {s:St} {j:J} {a:Act} {w:World} {r:RfS} {rf:Rf} {t:TT} {m:Nat} (hr:At cx U n X W0 s j a w) {A B:List Value} (hX:X=A++(rf.tmps.toList++B)) (hB:B.length=r.dep) (hsz:rf.tmps.size=m) (hf:oI r.dep s.tmps.old=some (t,m)):
  At cx U m (a.tmps.toList++X) {W0 with top:=false} ⟨⟨t,m,(s.tmps.cur,s.tmps.n)::s.tmps.old⟩,s.heap⟩ j {tmps:=rf.tmps,defers:=[]} w:=by
 obtain⟨off,h1,h2⟩:=pQ hf
 have hn:s.tmps.n=n:=hr.own
 have hlen:X.length=df s.tmps.old:=by
  have h3:=hr.len
  unfold TM.length at h3
  omega
 have hA:A.length=off:=by
  have:=congrArg List.length hX
  simp only[eA,Array.length_toList] at this
  omega
 refine⟨⟨rfl,hsz,fun i hi=> ?_,zV hr (fun i=> ?_),hr.rel.box,hr.rel.nob,hr.rel.inj,hr.rel.row,hr.rel.nor,hr.rel.sep,hr.rel.rsep,hr.rel.fb,hr.rel.ext,⟨hr.rel.gs.at',hr.rel.gs.box,hr.rel.gs.row,hr.rel.gs.md,hr.rel.gs.nd,hr.rel.gs.lp,hr.rel.gs.nol,hr.rel.gs.ev,hr.rel.gs.tb⟩⟩,?_,rfl⟩
 ·have hi2:i<rf.tmps.size:=by rw[hsz];exact hi
  refine⟨rf.tmps[i],Array.getElem?_eq_getElem hi2,?_⟩
  have h3:=hr.rel.sav (off+i) rf.tmps[i] (by
   have e:rf.tmps.toList.length=m:=by simp[hsz]
   rw[hX,thm9 (by omega),thm8 (by omega)]
   rw[show off+i-A.length=i by omega,iJ]
   exact Array.getElem?_eq_getElem hi2)
  have h4:s.fs.tmp (n+(off+i))=t.get i:=by
   simp only[St.fs,fsOf,TM.get?]
   rw[if_neg (by omega),show n+(off+i)-s.tmps.n=off+i by omega,h2 i hi]
   rfl
  have h5:(St.mk ⟨t,m,(s.tmps.cur,s.tmps.n)::s.tmps.old⟩ s.heap).fs.tmp i=t.get i:=by
   simp only[St.fs,fsOf,TM.get?]
   rw[if_pos hi];rfl
  rw[h4] at h3
  rw[h5]
  exact h3
 ·simp only[St.fs,fsOf,TM.get?]
  rw[if_neg (by omega),show m+i-m=i by omega]
  rfl
 ·simp only[TM.length,df,eA,Array.length_toList,hr.rel.size]
  rw[hn,<-hlen]
theorem yQ {X:List Value} {W0:Wb} {heap:List Ob} {j:J} {w:World}:∀{ps:List Nat} {vs:List V} {us:List Value} {tm tm':TM} {a:Act},ahU tm ps vs=some tm'->At cx U n X W0 ⟨tm,heap⟩ j a w->us.length=vs.length->(∀(i:Nat) x,vs[i]? =some x->∃u,us[i]? =some u/\x.den U j=some u)->
  At cx U n X W0 ⟨tm',heap⟩ j {a with tmps:=(ps.zip us).foldl (fun t p=>t.setIfInBounds p.1 p.2) a.tmps} w/\ps.length=us.length
 | [],[],[],tm,tm',a,h,hr,_,_=>by cases h;exact⟨hr,rfl⟩
 | p::ps,v::vs,u::us,tm,tm',a,h,hr,hl,hd=>by
   simp only[ahU] at h
   split at h
   ·rename_i hp
    have hp:p<tm.n:=by simpa[Nat.blt_eq] using hp
    obtain⟨u',h1,h2⟩:=hd 0 v rfl
    simp only[bK,bh] at h1
    subst h1
    have hn:tm.n=n:=hr.own
    have h3:At cx U n X W0 ⟨tm.set p v,heap⟩ j (a.put (some p) u) w:=by
     refine⟨?_,hr.len,hr.own⟩
     have h4:=hr.rel.put (dst:=some p) h2 (fun d hd=>by cases hd;omega)
     have e:(St.mk (tm.set p v) heap).fs=(St.mk tm heap).fs.put (some p) v:=by
      refine Ua.ext' (fun t=> ?_) (fun _=>rfl) (fun _=>rfl) (fun _=>rfl)
      simp only[Ua.put,St.fs,fsOf,TM.get_set tm v hp]
      by_cases ht:p=t
      ·subst ht;simp
      ·simp[ht]
     rw[e]
     exact h4
    obtain⟨h5,h6⟩:=yQ h h3 (by simpa using hl) (fun i x hx=>hd (i+1) x (by simpa using hx))
    exact⟨h5,by simp[h6]⟩
   ·cases h
 | [],_::_,_,_,_,_,h,_,_,_=>by cases h
 | _::_,[],_,_,_,_,h,_,_,_=>by cases h
 | [],[],_::_,_,_,_,_,_,hl,_=>by simp at hl
 | _::_,_::_,[],_,_,_,_,_,hl,_=>by simp at hl
theorem aa4 {x:LS} (h:LS.same x .ready=true):x=.ready:=by cases x<;>first | rfl | cases h
theorem an4 (hm:P.follows .mixedOrders=true) (hT:∀t i,(t,i)∈cx.ty->TIok P t i) (hS:∀s∈cx.sm,SmOk P sp s) (hkeys:∀s∈cx.sm,∀s'∈cx.sm,s.key=s'.key->s=s') {fuel:Nat} {cl:ClK} {r:RfS} (hcl:CallOk P sp G cx (some r) cl)
  {id:Nat} {args:List V} {s:St} {kw:Kw} {k:V->St->Kw->Tr} {R:Value->World->Prop} {n:Nat} {X:List Value} {W0:Wb} {j:J} {a:Act} {w:World} {vals:List Value} {l:Nat} (h:(rndK cl cx fuel r id args s kw k).holds sp G U I) (hg:Good sp cx.sm U kw) (hr:At cx U n X W0 s j a w) (ht:Tie sp (some r) X W0)
  (hyl:j.g.y id=some l) (hl:vals.length=args.length) (hd:∀(i:Nat) x,args[i]? =some x->∃u,vals[i]? =some u/\x.den U j=some u)
  (hR:∀v s' kw' U' I' j' w' u,(k v s' kw').holds sp G U' I'->Good sp cx.sm U' kw'->Ag kw.vk.length U U'->(∀m,m<kw.lv->I' m=I m)->kw.lv<=kw'.lv->kw.vk.length<=kw'.vk.length->v.den U' j'=some u->At cx U' n X W0 s' j' a w'->R u w'):
  ∃f tmps assign body,(Instr.yield l vals.toArray).run P w=.ok (.round l f tmps assign body) w/\∀ro,RoundIn (Fw ro) 0 P l f tmps assign body w fun e w'=>∃u,e=.returned u/\R u w':=by
 obtain⟨t0,rf,A,B,t1,t2,t3,t4,t5,t6,t7⟩:=ht
 unfold rndK at h
 split at h<;>first | exact h.elim | skip
 rename_i y t m hy hf
 split at h<;>first | exact h.elim | skip
 rename_i hck
 simp only[thm0] at hck
 have hm0:m=r.len:=thm1 hck.1
 split at h<;>first | exact h.elim | skip
 rename_i tm htm
 have hy0:s.fs.lp id=some y:=lK.2 hy
 obtain⟨rf',o,e1,e2,e3,e4,e5,e6⟩:=hr.rel.lpZ hy0
 rw[t1] at e1;cases e1
 have hll:l=rf.l:=by rw[hyl] at e2;exact Option.some.inj e2
 subst hll
 have h0:=aji (r:=r) (rf:=rf) hr t6 t7 (t5.trans hm0.symm) hf
 obtain⟨h1,h2⟩:=yQ htm h0 hl hd
 have hps:vals.toArray.size=o.params.size:=by rw[e5.ps,t2];simpa using h2.symm
 refine⟨o.fn,_,o.assign,o.body,run_yield e4 hps,fun ro=>roundIn_of_wpIn (F:=Fw ro) trivial ?_⟩
 have hfr:(Fw ro).inRound rf.l=Fw (some rf.l):=rfl
 rw[hfr]
 have etm:(o.params.zip vals.toArray).foldl (fun tmps (x:Nat×Value)=>match x with | (t,a)=>tmps.setIfInBounds t a) o.tmps=(r.ps.toList.zip vals).foldl (fun t p=>t.setIfInBounds p.1 p.2) rf.tmps:=by
  rw[e5.ps,e5.tmps,t2,<-Array.foldl_toList,Array.toList_zip]
 rw[etm,e5.assign,t3]
 have tie2:Tie sp (some r) (a.tmps.toList++X) {W0 with top:=false}:=(show Tie sp (some r) X {W0 with top:=false} from⟨t0,rf,A,B,t1,t2,t3,t4,t5,t6,t7⟩).more _
 refine mw (rl:=none) (ry:=some r) hcl (fun f hf=>by cases hf) hm hT hS hkeys fuel r.assign {W0 with top:=false} _ kw _ _ U I j _ w tie2 (fun e=>by cases e) h hg h1 (fun M1 sg s1 kw1 U1 I1 j1 a1 w1 hM1 h' hg' ha' hI' hl' hv' hr'=> ?_)
 have hM1:M1=W0.M:=hM1 rfl
 subst hM1
 cases sg with
 | exit id=>exact h'.elim
 | ret=>exact h'.elim
 | normal=>
   dsimp only at h'
   split at h'<;>first | exact h'.elim | skip
   rename_i y1 hy1
   split at h'<;>first | exact h'.elim | skip
   rename_i hck1
   rw[thm0] at hck1
   have hlp1:s1.fs.lp id=some y1:=lK.2 hy1
   obtain⟨rf1,o1,f1,f2,f3,f4,f5,f6⟩:=hr'.rel.lpZ hlp1
   have:rf1=rf:=by
    have h8:W0.rf=some rf1:=f1
    rw[t1] at h8;exact(Option.some.inj h8).symm
   subst this
   refine⟨_,run_beginRound f4 (by rw[f5.st,aa4 hck1.1];rfl),?_⟩
   have h9:=hr'.rel.loopSet hlp1 (fun i yi hi=>af1 hck1.2 i yi hi) f1 f2 f3 (y':=⟨.busy,y1.pend⟩) (o':={o1 with state:=.busy}) ⟨rfl,f5.pend,f5.ps,f5.assign,f5.body,f5.tmps⟩
   rw[e5.body,t4]
   have hat1:At cx U1 m (a.tmps.toList++X) {W0 with top:=false} ⟨s1.tmps,s1.heap.set id (.loop ⟨.busy,y1.pend⟩)⟩ (j1.setz rf1.l (some (.loop {o1 with state:=.busy}))) a1 (w1.putObj rf1.l (.loop {o1 with state:=.busy})):=by
    refine⟨?_,hr'.len,hr'.own⟩
    rw[show(St.mk s1.tmps (s1.heap.set id (.loop ⟨.busy,y1.pend⟩))).fs=s1.fs.setl id (some ⟨.busy,y1.pend⟩) from pP hy1 _]
    exact h9
   refine mw (rl:=none) (ry:=some r) hcl (fun f hf=>by cases hf) hm hT hS hkeys fuel r.body {W0 with top:=false} _ kw1 _ _ U1 I1 _ _ _ tie2 (fun e=>by cases e) h' hg' hat1 (fun M2 sg s2 kw2 U2 I2 j2 a2 w2 hM2 h'' hg'' ha'' hI'' hl'' hv'' hr''=> ?_)
   have hM2:M2=W0.M:=hM2 rfl
   subst hM2
   split at h''<;>first | exact h''.elim | skip
   rename_i y2 hy2
   split at h''<;>first | exact h''.elim | skip
   rename_i hck2
   rw[thm0] at hck2
   have hat2:=aky hr hr'' hck2.1
   have hlp2:(St.mk s2.tmps.pop s2.heap).fs.lp id=some y2:=lK.2 hy2
   obtain⟨rf2,o2,g1,g2,g3,g4,g5,g6⟩:=hat2.rel.lpZ hlp2
   have:rf2=rf1:=by rw[t1] at g1;exact(Option.some.inj g1).symm
   subst this
   have ag:Ag kw.vk.length U U2:=ha'.trans (ha''.mono hv')
   have hI3:∀m,m<kw.lv->I2 m=I m:=fun m hm=>(hI'' m (by omega)).trans (hI' m hm)
   have fin:∀(jump:Option Sig) (b:Bool),b=jump.isNone->(∀sg,jump=some sg->True)->(k (.one (.bool (.tt b))) ⟨s2.tmps.pop,s2.heap.set id (.loop ⟨if b then .ready else .done,jump⟩)⟩ kw2).holds sp G U2 I2->
    ∃v w',(Instr.endRound rf2.l (jump.map Sig.code)).run P w2=.ok v w'/\∃u,Ending.returned v=.returned u/\R u w':=by
    intro jump b hb _ hh
    have hbn:(jump.map Sig.code).isNone=b:=by rw[hb];cases jump<;>rfl
    refine⟨_,_,run_endRound (jump.map Sig.code) g4,_,rfl,?_⟩
    rw[hbn]
    have g9:=hat2.rel.loopSet hlp2 (fun i yi hi=>af1 hck2.2 i yi hi) g1 g2 g3 (y':=⟨if b then .ready else .done,jump⟩) (o':={o2 with state:=if b then .ready else .done,pending:=jump.map Sig.code}) ⟨by cases b<;>rfl,rfl,g5.ps,g5.assign,g5.body,g5.tmps⟩
    refine hR _ _ kw2 U2 I2 (j2.setz rf2.l (some (.loop {o2 with state:=if b then .ready else .done,pending:=jump.map Sig.code}))) _ (.bool b) hh hg'' ag hI3 (by omega) (by omega) (by simp[V.den,C.den,E.B]) ⟨?_,hat2.len,hat2.own⟩
    rw[show(St.mk s2.tmps.pop (s2.heap.set id (.loop ⟨if b then .ready else .done,jump⟩))).fs=(St.mk s2.tmps.pop s2.heap).fs.setl id (some ⟨if b then .ready else .done,jump⟩) from pP hy2 _]
    exact g9
   cases sg with
   | normal=>exact fin none true rfl (fun _ _=>trivial) h''
   | exit id=>exact fin (some (.exit id)) false rfl (fun _ _=>trivial) h''
   | ret=>exact fin (some .ret) false rfl (fun _ _=>trivial) h''
theorem my (hm:P.follows .mixedOrders=true) {fuel:Nat}:∀(d:Nat) (cx:Cx) (ry:Option RfS),(∀t i,(t,i)∈cx.ty->TIok P t i)->(∀s∈cx.sm,SmOk P sp s)->(∀s∈cx.sm,∀s'∈cx.sm,s.key=s'.key->s=s')->(∀p∈cx.fns,P.funcs[p.1]? =some p.2.1)->CallOk P sp G cx ry (yn fuel d cx ry)
 | 0,cx,ry,_,_,_,_=>⟨fun _ _ _ _ _ _ _ _ _ _ _ _ _ _ _ _ h=>h.elim,fun _ _ _ _ _ _ _ _ _ _ _ _ _ _ _ _ h=>h.elim⟩
 | d+1,cx,ry,hT,hS,hkeys,hF=>by
   refine⟨fun g args s kw k R U I n X W0 j a w vals hgb h hg hr ht hl hd hR=> ?_,fun id args s kw k R U I n X W0 j a w vals l h hg hr ht hyl hl hd hR=> ?_⟩
   ·have hbl:Nat.blt g yB=true:=by simpa[Nat.blt_eq] using hgb
    simp only[yn,hbl,if_true] at h
    split at h
    ·exact h.elim
    ·rename_i fn hints cuts hlook
     have hf:P.funcs[g]? =some fn:=hF _ (an hlook)
     split at h
     ·rename_i c hc
      split at h
      ·exact h.elim
      ·rename_i hname
       refine⟨dd hf (by simpa using hname) (by rw[hc];rfl) _ w,?_⟩
       refine sO hf hc ?_
       have hsz:vals.toArray.size=args.length:=by simpa using hl
       have hasz:=hr.rel.size
       have hle:args.length<=args.length+(fn.ntmps-args.length):=Nat.le_add_right _ _
       have at0:∀i:Nat,(s.tmps.push args (args.length+(fn.ntmps-args.length))).get? (args.length+(fn.ntmps-args.length)+i)=s.tmps.get? i:=fun i=>TM.push_old_get s.tmps hle i
       refine mw (rl:=none) (cx:={cx with hints:=hints,cuts:=cuts}) (n:=args.length+(fn.ntmps-args.length)) (X:=a.tmps.toList++X) (my hm d _ ry hT hS hkeys hF) (fun f hf=>by cases hf) hm hT hS hkeys fuel c {W0 with top:=false} _ kw _ _ U I j _ w ht (fun e=>by cases e) h hg
        ⟨⟨rfl,by simp[hl],?_,?_,hr.rel.box,hr.rel.nob,hr.rel.inj,hr.rel.row,hr.rel.nor,hr.rel.sep,hr.rel.rsep,hr.rel.fb,hr.rel.ext,⟨hr.rel.gs.at',hr.rel.gs.box,hr.rel.gs.row,hr.rel.gs.md,hr.rel.gs.nd,hr.rel.gs.lp,hr.rel.gs.nol,hr.rel.gs.ev,hr.rel.gs.tb⟩⟩,?_,TM.push_n _ _ _⟩ ?_
       ·intro t ht
        rcases aV t args.length with h1 | h1
        ·obtain⟨u,hu,hdu⟩:=hd t args[t] (thm6 h1)
         refine⟨u,?_,.inr ?_⟩
         ·rw[Array.getElem?_append_left (by simpa[hl] using h1)]
          simpa using hu
         ·simp only[St.fs,fsOf]
          rw[TM.push_arg s.tmps hle h1,thm6 h1]
          exact hdu
        ·refine⟨Go.undef,?_,.inr ?_⟩
         ·rw[Array.getElem?_append_right (by simpa[hl] using h1)]
          rw[Array.getElem?_replicate,if_pos (by rw[hsz];omega)]
         ·simp only[St.fs,fsOf]
          rw[TM.push_undef s.tmps hle h1 ht]
          rfl
       ·exact zV hr (fun i=>by simp only[St.fs,fsOf,at0])
       ·simp only[TM.push_length,hr.len,eA,Array.length_toList,hasz]
       ·intro M' sg s' kw' U' I' j' a' w' hM' h' hg' ha' hI' hl' hv' hr'
        have hM':M'=W0.M:=hM' rfl
        subst hM'
        have hr':At cx U' (args.length+(fn.ntmps-args.length)) (a.tmps.toList++X) {W0 with top:=false} s' j' a' w':=⟨hr'.rel,hr'.len,hr'.own⟩
        have fin:(match resL cx s' fn.results.toList with
         | some xs=>if Nat.beq s'.tmps.old.length (s.tmps.old.length+1)&&Nat.beq s'.tmps.pop.n s.n then k (ace xs) ⟨s'.tmps.pop,s'.heap⟩ kw' else .stuck 129
         | none=>.stuck 81:Tr).holds sp G U' I'->a'.defers=[]/\∃v,(results fn a'.tmps).run P w'=.ok v w'/\∃u,Ending.returned v=.returned u/\R u w':=by
         intro h'
         split at h'
         ·rename_i xs hxs
          split at h'<;>first | exact h'.elim | skip
          rename_i hck
          obtain⟨vs,h1,h2⟩:=pA hT hr' hxs
          exact⟨hr'.rel.defers,_,h2,_,rfl,hR (ace xs) _ kw' U' I' j' w' _ h' hg' ha' hI' hl' hv' (acd h1) (aky hr hr' hck)⟩
         ·exact h'.elim
        cases sg with
        | exit id=>exact h'.elim
        | normal=>exact fin h'
        | ret=>exact fin h'
     ·exact h.elim
   ·have hbl:Nat.blt (yB+id) yB=false:=by
     cases hb:Nat.blt (yB+id) yB with
     | false=>rfl
     | true=>
       have:yB+id<yB:=by simpa[Nat.blt_eq] using hb
       omega
    simp only[yn,hbl] at h
    split at h
    ·cases ‹false=true›
    ·split at h
     ·rename_i r
      rw[show yB+id-yB=id by omega] at h
      obtain⟨f,tm,as,bd,h1,h2⟩:=an4 (cx:={cx with hints:=r.hints,cuts:=r.cuts}) hm hT hS hkeys (my hm d {cx with hints:=r.hints,cuts:=r.cuts} (some r) hT hS hkeys hF) h hg ⟨hr.rel,hr.len,hr.own⟩ ht hyl hl hd (R:=R) (fun v s' kw' U' I' j' w' u q1 q2 q3 q4 q5 q6 q7 q8=>hR v s' kw' U' I' j' w' u q1 q2 q3 q4 q5 q6 q7 ⟨q8.rel,q8.len,q8.own⟩)
      exact⟨f,tm,as,bd,h1,h2⟩
     ·exact h.elim
theorem aoD (hF:∀p∈cx.fns,P.funcs[p.1]? =some p.2.1) (hm:P.follows .mixedOrders=true) (hT:∀t i,(t,i)∈cx.ty->TIok P t i) (hS:∀s∈cx.sm,SmOk P sp s) (hkeys:∀s∈cx.sm,∀s'∈cx.sm,s.key=s'.key->s=s') {f:Nat} {fn:Func} (hf:P.funcs[f]? =some fn)
  {fuel:Nat} {args:List V} {heap:List Ob} {kw:Kw} {vals:List Value} {j:J} (hargs:∀(i:Nat) x,args[i]? =some x->∃u,vals[i]? =some u/\x.den U j=some u) (hlen:vals.length=args.length) {tup:Bool} (ht:Nat.beq cx.res.length 1 = !tup) {X:List Dt}
  (h:(funK cx fuel fn args heap kw).holds sp (fun U e=>e.D U=X) U I) (hg:Good sp cx.sm U kw) (w:World) (hst:Start cx U heap j w) (hhw:sp.hw w):Calls P f vals.toArray w fun e w'=>∃v,e=.returned v/\RetOk cx.res tup w w' X v:=by
 unfold funK at h
 split at h
 ·rename_i c hc
  refine hJ.1 (callsIn_of_wp_marks (F:=Fw none) (n:=0) hf hc trivial ?_)
  have hsz:vals.toArray.size=args.length:=by simpa using hlen
  have fR:∀b,(rowH heap b=none↔heap.length<=b)/\∀r,rowH heap b=some (some r)->heap[b]? =some (.row r):=by
   intro b
   refine⟨⟨fun hb=> ?_,fun hb=>by simp[rowH,bB hb]⟩,fun r hb=> ?_⟩
   ·rcases aV b heap.length with hlt | hge
    ·obtain⟨r,s,e,_⟩:=hst.row b _ (thm6 hlt)
     simp[rowH,thm6 hlt,e] at hb
    ·exact hge
   ·unfold rowH at hb
    split at hb
    ·rename_i r' hr;cases hb;exact hr
    ·cases hb
    ·cases hb
  have hown:∀b r,rowH heap b=some (some r)->r.own=false:=fun b r hb=>by
   obtain⟨r',s,e,h1,_⟩:=hst.row b _ ((fR b).2 r hb)
   cases e;exact h1
  have nobox:∀b,boxH heap b=none:=fun b=>by
   unfold boxH
   split
   ·rename_i cs ty hb
    obtain⟨r,s,e,_⟩:=hst.row b _ hb
    cases e
   ·rfl
  refine mw (P:=P) (n:=args.length+(fn.ntmps-args.length)) (X:=[]) (my hm 12 cx none hT hS hkeys hF) (fun f hf=>by cases hf;exact⟨rfl,fun r=>my hm 12 cx (some r) hT hS hkeys hF⟩) hm hT hS hkeys fuel c ⟨w,[],true,none,sp.hw,fun w' hx=>sp.hx w w' hx hhw⟩ _ kw _ _ U I j _ w ⟨rfl,trivial⟩ (fun _=>⟨rfl,rfl⟩) h hg ⟨⟨rfl,by simp[hlen],?_,fun i v hi=>(by simp at hi),fun b cs ty hb=> ?_,fun b _=>hst.nob b,fun b b' k hb=> ?_,fun b r hb=> ?_,fun b hb=>hst.nos b ((fR b).1.1 hb),fun b b' k r s hb=> ?_,fun b b' r r' s s' k hb ho=> ?_,hst.fb,Ext.refl w,⟨fun k o hz=>(by rw[hst.gh] at hz;have:=sN.1 hz;exact⟨this.1,fun e=>by rw[this.2] at e;cases e⟩),fun k o b hz e=>(by rw[hst.nob] at e;cases e),fun k o id r s hz hF hs hc e=>(by rw[hst.gh] at hz;have h1:=(sN.1 hz).2;have h2:r.own=false:=hown id r hF;exact hc.elim (fun hc=>Bool.noConfusion (h2.symm.trans hc)) (fun hc=>Bool.noConfusion (h1.symm.trans hc))),fun D hD=>(by cases hD),List.nodup_nil,fun id y hy=> ?_,fun id _ _=>(by rw[hst.gh]),fun id r s hF hs=> ?_,fun id r s hF hk hs=> ?_⟩⟩,(by rw[TM.push_length];rfl),TM.push_n _ _ _⟩ ?_
  ·intro t ht
   rcases aV t args.length with h1 | h1
   ·obtain⟨u,hu,hd⟩:=hargs t args[t] (thm6 h1)
    refine⟨u,?_,.inr ?_⟩
    ·rw[Array.getElem?_append_left (by simpa[hlen] using h1)]
     simpa using hu
    ·simp only[St.fs,fsOf]
     rw[TM.push_arg _ (Nat.le_add_right _ _) h1,thm6 h1]
     exact hd
   ·refine⟨Go.undef,?_,.inr ?_⟩
    ·rw[Array.getElem?_append_right (by simpa[hlen] using h1)]
     rw[Array.getElem?_replicate,if_pos (by rw[hsz];omega)]
    ·simp only[St.fs,fsOf]
     rw[TM.push_undef _ (Nat.le_add_right _ _) h1 ht]
     rfl
  ·rw[show(St.mk (TM.push args (args.length+(fn.ntmps-args.length)) ⟨.leaf (.one .undef),0,[]⟩) heap).fs.box b=boxH heap b from rfl,nobox] at hb
   cases hb
  ·rw[hst.nob] at hb;cases hb
  ·obtain⟨r',s,e,h1,h2,h3⟩:=hst.row b _ ((fR b).2 r hb)
   cases e
   exact⟨s,h2,h3⟩
  ·rw[hst.nob] at hb;cases hb
  ·rw[hown b r hb] at ho;cases ho
  ·obtain⟨r,s,e,_⟩:=hst.row id _ (lK.1 hy)
   cases e
  ·exact fun p hp=>by rw[hst.gh];have h1:=hst.zz id s hs p hp;exact⟨sN.2 h1,h1.2⟩
  ·obtain⟨r',s',e,h1,h2,h3⟩:=hst.row id _ ((fR id).2 r hF)
   cases e
   have:=(h3.2.1 (by rw[hk];rfl)).own
   rw[h1] at this;cases this
  ·intro M' sg s' kw' U' I' j1' a1' w1' _ h' hg' ha' hI' hl' hv' hr1
   have leave:(∀j' w',At cx U' (args.length+(fn.ntmps-args.length)) [] ⟨w,[],true,none,sp.hw,fun w' hx=>sp.hx w w' hx hhw⟩ s' j' {a1' with defers:=[]} w'->∃v,(results fn a1'.tmps).run P w'=.ok v w'/\∃u,Ending.returned v=.returned u/\RetOk cx.res tup w w' X u)->LeavesInM (Fw none) 0 P fn a1'.tmps (fun e w'=>∃v,e=.returned v/\RetOk cx.res tup w w' X v) a1'.defers .returning w1':=by
    intro hk
    rw[hr1.rel.defers]
    refine Rel.unmark M' rfl hr1.rel (fun j' w' h2=> ?_)
    obtain⟨v,k1,k2⟩:=hk j' w' ⟨h2,hr1.len,hr1.own⟩
    exact⟨v,k1,k2⟩
   have fin:∀j' w',At cx U' (args.length+(fn.ntmps-args.length)) [] ⟨w,[],true,none,sp.hw,fun w' hx=>sp.hx w w' hx hhw⟩ s' j' {a1' with defers:=[]} w'->∀xs,resL cx s' fn.results.toList=some xs->∀e,oO kw'.vk s'.heap cx.res xs=some e->lI (oids cx.res xs)=true->e.D U'=X->∃v,(results fn a1'.tmps).run P w'=.ok v w'/\∃u,Ending.returned v=.returned u/\RetOk cx.res tup w w' X u:=by
    intro j' w' hr' xs hxs e he hn hX
    obtain⟨vs,h1,h2⟩:=pA hT hr' hxs
    have h3:=sJ hg'.vk hr'.rel he h1
    have h4:=h3.ret (tup:=tup) ht (by rw[gL h1,oN he]) hr'.rel.ext (fun i i' a b k hi hi' hk hk'=> ?_) (fun a ha p hp=> ?_)
    ·rw[hX] at h4
     exact⟨_,h2,_,rfl,h4⟩
    ·cases a with
     | none=>cases hk
     | some a=>
       cases b with
       | none=>cases hk'
       | some b=>
         obtain⟨r,hr1,hr2⟩:=gY he i a hi
         obtain⟨r',hr3,hr4⟩:=gY he i' b hi'
         rw[<-kS] at hr1 hr3
         have q1:=fA hr1
         have q2:=fA hr3
         obtain⟨s1,t1,_⟩:=hr'.rel.row a r q1
         obtain⟨s2,t2,_⟩:=hr'.rel.row b r' q2
         simp only[ac8,t1,t2,Option.getD_some] at hk hk'
         have:=hr'.rel.rsep a b r r' s1 s2 k q1 hr2 q2 t1 t2 (ku hr2 hk) (ku hr4 hk')
         subst this
         exact vt hn i i' a hi hi'
    ·cases a with
     | none=>cases hp
     | some a=>
       obtain⟨i,hi⟩:=List.getElem?_of_mem ha
       obtain⟨r,hr1,hr2⟩:=gY he i a hi
       have hr0:=hr1
       rw[<-kS] at hr1
       have q1:=fA hr1
       obtain⟨s1,t1,t3⟩:=hr'.rel.row a r q1
       cases hev:evAt s'.heap a with
       | false=>simp[svOf,hev] at hp
       | true=>
         have hs1:svOf s'.heap j' (some a)=s1:=by simp[svOf,hev,t1]
         rw[hs1] at hp
         have hkd:r.kd=.ev:=by
          unfold evAt at hev
          rw[hr0] at hev
          exact RK.isEv_eq hev
         obtain⟨z1,z2⟩:=hr'.rel.gs.ev a r s1 q1 t1 p hp
         refine⟨(hr'.rel.gs.at' _ _ z1).1,z2,(t3.2.2 hkd).zb hr2 p hp,fun u hu e=> ?_⟩
         obtain⟨b,hb,rfl⟩:=List.mem_map.1 hu
         cases b with
         | none=>cases e
         | some b=>
           obtain⟨i',hi'⟩:=List.getElem?_of_mem hb
           obtain⟨r',hr3,hr4⟩:=gY he i' b hi'
           rw[<-kS] at hr3
           have q2:=fA hr3
           obtain⟨s2,t2,_⟩:=hr'.rel.row b r' q2
           simp only[ac8,t2,Option.getD_some] at e
           exact hr'.rel.gs.row _ _ b r' s2 z1 q2 t2 (.inl hr4) (ku hr4 e)
   have fin':(match resL cx s' fn.results.toList with
     | some xs=>match oO kw'.vk s'.heap cx.res xs with
       | some e=>if lI (oids cx.res xs) then .leaf e else .stuck 83
       | none=>.stuck 84
     | none=>.stuck 81:Tr).holds sp (fun U e=>e.D U=X) U' I'->LeavesInM (Fw none) 0 P fn a1'.tmps (fun e w'=>∃v,e=.returned v/\RetOk cx.res tup w w' X v) a1'.defers .returning w1':=by
    intro h'
    split at h'
    ·rename_i xs hxs
     split at h'
     ·rename_i e he
      split at h'
      ·rename_i hn;exact leave (fun j' w' hr'=>fin j' w' hr' xs hxs e he hn h')
      ·exact h'.elim
     ·exact h'.elim
    ·exact h'.elim
   cases sg with
   | exit id=>exact h'.elim
   | normal=>exact fin' h'
   | ret=>exact fin' h'
 ·exact h.elim
end
def Tr.sc:Nat->Tr->Bool
 | _,.leaf _ | _,.panic | _,.stuck _ | _,.at _ _=>true
 | n,.br e t f=>e.sc n&&(t.sc n&&f.sc n)
 | n,.call _ ks args v0 t=>args.sc n&&(Nat.beq v0 n&&t.sc (n+ks.length))
 | n,.next _ args=>args.sc n
 | n,.loop _ v0 vks init body=>init.sc n&&(Nat.beq v0 n&&body.sc (n+vks.length))
 | n,.cut _ v0 vks pre body=>Nat.beq v0 n&&(pre.sc n&&body.sc (n+vks.length))
 | n,.any v0 _ t=>Nat.beq v0 n&&t.sc (n+1)
 | n,.both v0 a b=>Nat.beq v0 n&&(a.sc n&&b.sc n)
def Tr.asks (sp:Spec) (G:Env->E->Prop):Env->(Nat->List Dt->Prop)->Tr->Prop
 | U,_,.leaf e=>G U e
 | _,_,.panic=>False
 | _,_,.stuck _=>False
 | _,_,.at _ _=>False
 | U,I,.br e t f=>(e.B U=true->t.asks sp G U I)/\(e.B U=false->f.asks sp G U I)
 | U,I,.call key ks args v0 t=>sp.pre key (args.D U)/\(eqs U (sp.F key (args.D U)) v0 0 ks->t.asks sp G U I)
 | U,I,.next lv args=>I lv (args.D U)
 | U,I,.any v0 e t=>∀U',Ag v0 U U'->inK .i64 (U'.i v0)=true->e.B U'=true->t.asks sp G U' I
 | U,I,.both _ a b=>a.asks sp G U I/\b.asks sp G U I
 | U,I,.loop lv v0 vks init body=>∃(inv:List Dt->Prop) (μ:List Dt->Nat),inv (init.D U)/\
   ∀U',Ag v0 U U'->okDs vks (varsD U' v0 vks)->inv (varsD U' v0 vks)->body.asks sp G U' (upd I lv fun ds'=>inv ds'/\μ ds'<μ (varsD U' v0 vks))
 | U,I,.cut lv v0 vks pre body=>∃inv:List Dt->Prop,pre.asks sp G U (upd I lv inv)/\
   ∀U',Ag v0 U U'->okDs vks (varsD U' v0 vks)->inv (varsD U' v0 vks)->body.asks sp G U' I
theorem Tr.asks_mono {sp:Spec} {G:Env->E->Prop}:∀(t:Tr) (U:Env) (I I':Nat->List Dt->Prop),(∀n ds,I n ds->I' n ds)->t.asks sp G U I->t.asks sp G U I':=by
 intro t
 induction t with
 | leaf | panic | stuck=>intro U I I' _ h;exact h
 | br e t f iht ihf=>intro U I I' hi h;exact⟨fun hb=>iht U I I' hi (h.1 hb),fun hb=>ihf U I I' hi (h.2 hb)⟩
 | call key ks args v0 t ih=>intro U I I' hi h;exact⟨h.1,fun he=>ih U I I' hi (h.2 he)⟩
 | next lv args=>intro U I I' hi h;exact hi _ _ h
 | any v0 e t ih=>intro U I I' hi h;exact fun U' h1 h2 h3=>ih U' I I' hi (h U' h1 h2 h3)
 | both v0 a b iha ihb=>intro U I I' hi h;exact⟨iha U I I' hi h.1,ihb U I I' hi h.2⟩
 | loop lv v0 vks init body ih=>
   intro U I I' hi h
   obtain⟨inv,μ,h1,h2⟩:=h
   refine⟨inv,μ,h1,fun U' ha hd hv=>ih U' _ _ (fun n ds=> ?_) (h2 U' ha hd hv)⟩
   unfold upd
   split
   ·exact id
   ·exact hi n ds
 | cut lv v0 vks pre body ihp ihb=>
   intro U I I' hi h
   obtain⟨inv,h1,h2⟩:=h
   refine⟨inv,ihp U _ _ (fun n ds=> ?_) h1,fun U' ha hd hv=>ihb U' I I' hi (h2 U' ha hd hv)⟩
   unfold upd
   split
   ·exact id
   ·exact hi n ds
 |_=>intro U I I' _ h;exact h
def Env.put (U:Env) (v0:Nat) (ds:List Dt):Env:=⟨fun i=>if v0<=i then dI ds (i-v0) else U.i i,fun i=>if v0<=i then dB ds (i-v0) else U.b i,fun i=>if v0<=i then dL ds (i-v0) else U.l i⟩
theorem jZ (U:Env) (v0:Nat) (ds:List Dt):Ag v0 U (U.put v0 ds):=fun i hi=>by
 have:¬v0<=i:=by omega
 simp[Env.put,this]
theorem akW {U:Env} {ds:List Dt} {v0:Nat}:∀(ks:List CK) (n:Nat),(∀m,n<=m->m<n+ks.length->U.i (v0+m)=dI ds m/\U.b (v0+m)=dB ds m/\U.l (v0+m)=dL ds m)->eqs U ds v0 n ks
 | [],_,_=>trivial
 | k::ks,n,h=>by
   have h0:=h n (Nat.le_refl _) (by simp)
   have h1:=akW ks (n+1) (fun m h1 h2=>h m (by omega) (by simp at h2 ⊢;omega))
   cases k
   case int=>exact⟨h0.1,h1⟩
   case bool=>exact⟨h0.2.1,h1⟩
   case sl=>exact⟨h0.2.2,h1⟩
   all_goals exact h1
theorem yw {U:Env} {v0:Nat} {ds:List Dt}:∀(vks:List VK) (n:Nat),okDs vks (ds.drop n)->(∀m,n<=m->m<n+vks.length->U.i (v0+m)=dI ds m/\U.b (v0+m)=dB ds m/\U.l (v0+m)=dL ds m)->varsD U (v0+n) vks=ds.drop n
 | [],n,h,_=>by
   cases hd:ds.drop n with
   | nil=>rfl
   | cons d r=>rw[hd] at h;exact h.elim
 | k::vks,n,h,hv=>by
   cases hd:ds.drop n with
   | nil=>rw[hd] at h;cases k<;>exact h.elim
   | cons d r=>
     rw[hd] at h
     obtain⟨d1,d2⟩:=dg hd
     have ih:=yw vks (n+1) (by rw[d2];exact h.2) (fun m h1 h2=>hv m (by omega) (by simp at h2 ⊢;omega))
     rw[d2] at ih
     obtain⟨h1,h2,h3⟩:=hv n (Nat.le_refl _) (by simp)
     simp only[varsD]
     rw[show v0+n+1=v0+(n+1) by omega,ih]
     congr 1
     have ok:=h.1
     cases k with
     | int k=>
       cases d with
       | z x=>simp only[varD];rw[h1,agL d1]
       | l L=>exact ok.elim
     | bool=>
       cases d with
       | z x=>
         simp only[varD];rw[h2]
         simp only[dB,agL d1]
         rcases ok with rfl | rfl<;>rfl
       | l L=>exact ok.elim
     | list ks=>
       cases d with
       | z x=>exact ok.elim
       | l L=>simp only[varD];rw[h3,ajQ d1]
theorem jY {U:Env} {v0:Nat} {ds:List Dt} {vks:List VK} (h:okDs vks ds) {U':Env} (ha:Ag (v0+vks.length) (U.put v0 ds) U'):varsD U' v0 vks=ds:=by
 refine(yw (v0:=v0) (ds:=ds) vks 0 h (fun m _ h2=> ?_))
 have:=ha (v0+m) (by omega)
 simp only[Env.put,if_pos (Nat.le_add_right v0 m),Nat.add_sub_cancel_left] at this
 exact⟨this.1.symm,this.2.1.symm,this.2.2.symm⟩
theorem abz {sp:Spec} {G:Env->E->Prop}:∀(t:Tr) (n:Nat) (U:Env) (I:Nat->List Dt->Prop),t.sc n=true->(∀U',Ag n U U'->t.asks sp G U' I)->∃U',Ag n U U'/\t.holds sp G U' I:=by
 intro t
 induction t with
 | leaf v=>intro n U I _ h;exact⟨U,Ag.refl n U,h U (Ag.refl n U)⟩
 | panic=>intro n U I _ h;exact(h U (Ag.refl n U)).elim
 | stuck m=>intro n U I _ h;exact(h U (Ag.refl n U)).elim
 | next lv args=>intro n U I _ h;exact⟨U,Ag.refl n U,h U (Ag.refl n U)⟩
 | any v0 e t ih=>
   intro n U I hs h
   simp only[Tr.sc,thm0] at hs
   have hv':=thm1 hs.1
   subst hv'
   refine⟨U,Ag.refl _ _,fun z hz=> ?_⟩
   have hzi:∀U',Ag (v0+1) (U.put v0 [.z z]) U'->U'.i v0=z:=fun U' hag=>by
    rw[<-(hag v0 (by omega)).1]
    simp[Env.put,dI]
   cases hb:e.B (U.put v0 [.z z]) with
   | false=>exact⟨_,jZ U v0 _,hzi _ (Ag.refl _ _),fun hf=>by rw[hb] at hf;cases hf⟩
   | true=>
     by_cases hne:∃U',Ag (v0+1) (U.put v0 [.z z]) U'/\e.B U'=false
     ·obtain⟨U',g1,g2⟩:=hne
      exact⟨U',(jZ U v0 _).trans (g1.mono (by omega)),hzi U' g1,fun hf=>by rw[g2] at hf;cases hf⟩
     ·have hall:∀U',Ag (v0+1) (U.put v0 [.z z]) U'->e.B U'=true:=fun U' g1=>by
       cases hq:e.B U' with
       | true=>rfl
       | false=>exact absurd ⟨U',g1,hq⟩ hne
      obtain⟨U',g1,g2⟩:=ih (v0+1) (U.put v0 [.z z]) I hs.2 (fun U' hag=>h U (Ag.refl _ _) U' ((jZ U v0 _).trans (hag.mono (by omega))) (by rw[hzi U' hag];exact hz) (hall U' hag))
      exact⟨U',(jZ U v0 _).trans (g1.mono (by omega)),hzi U' g1,fun _=>g2⟩
 | br e t f iht ihf=>
   intro n U I hs h
   simp only[Tr.sc,thm0] at hs
   cases hb:e.B U with
   | true=>
     obtain⟨U',h1,h2⟩:=iht n U I hs.2.1 (fun U' ha=>(h U' ha).1 (by rw[<-(E.sc_eq ha e hs.1).2.1];exact hb))
     refine⟨U',h1,fun _=>h2,fun hf=> ?_⟩
     rw[<-(E.sc_eq h1 e hs.1).2.1,hb] at hf
     cases hf
   | false=>
     obtain⟨U',h1,h2⟩:=ihf n U I hs.2.2 (fun U' ha=>(h U' ha).2 (by rw[<-(E.sc_eq ha e hs.1).2.1];exact hb))
     refine⟨U',h1,fun hf=> ?_,fun _=>h2⟩
     rw[<-(E.sc_eq h1 e hs.1).2.1,hb] at hf
     cases hf
 | call key ks args v0 t ih=>
   intro n U I hs h
   simp only[Tr.sc,thm0] at hs
   obtain⟨ha,hv,ht⟩:=hs
   have hv':=thm1 hv
   subst hv'
   have ag1:∀U',Ag (v0+ks.length) (U.put v0 (sp.F key (args.D U))) U'->Ag v0 U U':=fun U' hag=>(jZ U v0 _).trans (hag.mono (by omega))
   have he:∀U',Ag (v0+ks.length) (U.put v0 (sp.F key (args.D U))) U'->eqs U' (sp.F key (args.D U')) v0 0 ks:=fun U' hag=>by
    rw[<-(E.sc_eq (ag1 U' hag) args ha).2.2.2.2]
    refine akW ks 0 (fun m h1 h2=> ?_)
    have:=hag (v0+m) (by omega)
    simp only[Env.put,if_pos (Nat.le_add_right v0 m),Nat.add_sub_cancel_left] at this
    exact⟨this.1.symm,this.2.1.symm,this.2.2.symm⟩
   obtain⟨U',h1,h2⟩:=ih (v0+ks.length) _ I ht (fun U' hag=>(h U' (ag1 U' hag)).2 (he U' hag))
   exact⟨U',ag1 U' h1,(h U' (ag1 U' h1)).1,he U' h1,h2⟩
 | both v0 a b iha ihb=>
   intro n U I hs h
   simp only[Tr.sc,thm0] at hs
   obtain⟨hv,ha,hb⟩:=hs
   have hv':=thm1 hv
   subst hv'
   obtain⟨U1,g1,g2⟩:=iha v0 U I ha (fun U' hag=>(h U' hag).1)
   obtain⟨U2,g3,g4⟩:=ihb v0 U I hb (fun U' hag=>(h U' hag).2)
   exact⟨U,Ag.refl _ _,⟨U1,g1,g2⟩,U2,g3,g4⟩
 | loop lv v0 vks init body ih=>
   intro n U I hs h
   simp only[Tr.sc,thm0] at hs
   obtain⟨hi,hv,hb⟩:=hs
   have hv':=thm1 hv
   subst hv'
   obtain⟨inv,μ,h1,h2⟩:=h U (Ag.refl _ _)
   refine⟨U,Ag.refl _ _,inv,μ,h1,fun ds hd hin=> ?_⟩
   obtain⟨U',g1,g2⟩:=ih (v0+vks.length) (U.put v0 ds) (upd I lv fun ds'=>inv ds'/\μ ds'<μ ds) hb (fun U' hag=>by
    have hvs:=jY hd hag
    have:=h2 U' ((jZ U v0 ds).trans (hag.mono (by omega))) (by rw[hvs];exact hd) (by rw[hvs];exact hin)
    rw[hvs] at this
    exact this)
   exact⟨U',(jZ U v0 ds).trans (g1.mono (by omega)),jY hd g1,g2⟩
 | cut lv v0 vks pre body ihp ihb=>
   intro n U I hs h
   simp only[Tr.sc,thm0] at hs
   obtain⟨hv,hp,hb⟩:=hs
   have hv':=thm1 hv
   subst hv'
   let J:List Dt->Prop:=fun ds=>∃(U1:Env) (inv:List Dt->Prop),Ag v0 U U1/\inv ds/\∀U',Ag v0 U1 U'->okDs vks (varsD U' v0 vks)->inv (varsD U' v0 vks)->body.asks sp G U' I
   obtain⟨U2,k1,k2⟩:=ihp v0 U (upd I lv J) hp (fun U' ha=>by
    obtain⟨inv,h1,h2⟩:=h U' ha
    refine pre.asks_mono U' _ _ (fun m ds=> ?_) h1
    unfold upd
    split
    ·exact fun hi=>⟨U',inv,ha,hi,h2⟩
    ·exact id)
   refine⟨U2,k1,J,k2,fun ds hd hin=> ?_⟩
   obtain⟨U1,inv,a1,a2,a3⟩:=hin
   obtain⟨U',g1,g2⟩:=ihb (v0+vks.length) (U1.put v0 ds) I hb (fun U' hag=>by
    have hvs:=jY hd hag
    exact a3 U' ((jZ U1 v0 ds).trans (hag.mono (by omega))) (by rw[hvs];exact hd) (by rw[hvs];exact a2))
   exact⟨U',(k1.symm.trans a1).trans ((jZ U1 v0 ds).trans (g1.mono (by omega))),jY hd g1,g2⟩
 |_=>intro n U I _ h;exact(h U (Ag.refl n U)).elim
def aoO:C->Value->Bool
 | .int k (.lit z),.int k' z'=>aZ k k'&&fO z z'
 | .bool (.tt b),.bool b'=>b==b'
 | .np,.pointer none=>true
 | .nsl,.slice none 0 0=>true
 | .nf,.nilFunc=>true
 | .nmp,.map none=>true
 | .str .ln,.string s=>s.data.toList.isEmpty
 | _,_=>false
def vS:List C->List Value->Bool
 | [],[]=>true
 | c::cs,v::vs=>aoO c v&&vS cs vs
 | _,_=>false
theorem ajT {c:C} {v:Value} (h:aoO c v=true) (U:Env) (j:J):c.den U j=some v:=by
 unfold aoO at h
 split at h
 ·simp only[thm0] at h
  rw[az h.1,du h.2];rfl
 ·rw[dl] at h;rw[h];rfl
 ·rfl
 ·rfl
 ·rfl
 ·rfl
 ·rename_i s
  obtain⟨⟨l⟩⟩:=s
  have:l=[]:=by simpa using h
  subst this
  rfl
 ·cases h
theorem oQ (U:Env) (j:J):∀{cs:List C} {vs:List Value},vS cs vs=true->denL U j cs=some vs
 | [],[],_=>rfl
 | c::cs,v::vs,h=>by
   simp only[vS,thm0] at h
   simp[denL,ajT h.1,oQ U j h.2]
def hE (P:Program):List Field->List (Nat×Nat)->Bool
 | [],[]=>true
 | f::fs,(off,ft)::l=>Nat.beq f.offset off&&(Nat.beq f.type ft&&((match P.info? ft with | some i=>!Nat.beq i.size 0 | none=>false)&&hE P fs l))
 | _,_=>false
def ckTI (P:Program) (t:Nat) (i:TI):Bool:=
 match P.info? t,P.underlying t with
 | some inf,some d=>
   (((match i.mapt with | none=>true | some (k,e)=>(match d with | .map k' e'=>Nat.beq k k'&&Nat.beq e e' | _=>false))&&(match i.kd with | 0=>true | 1=>(match d with | .pointer _=>true | _=>false) | 2=>(match d with | .string=>true | _=>false) | _=>false))&&(match inf.zero with | some (.agg _)=>i.agg | some _=>!i.agg | none=>false))&&(Nat.beq inf.size i.size&&((match inf.zero with | some z=>vS i.zero z.cells.toList&&Nat.beq z.cells.toList.length i.size | none=>false)&&(Nat.beq inf.bytes i.bytes&&
   (match d with
    | .struct fs=>i.agg&&(i.arr.isNone&&(i.ik.isNone&&(!i.isb&&(i.sle.isNone&&(!i.fnt&&hE P fs.toList i.fields)))))
    | .array n e=>i.agg&&((match i.arr with | some (m,e')=>Nat.beq n m&&Nat.beq e e' | none=>false)&&(i.ik.isNone&&(!i.isb&&(i.sle.isNone&&(!i.fnt&&i.fields.isEmpty)))))
    | .int k=>!i.agg&&(i.arr.isNone&&((match i.ik with | some k'=>aZ k k' | none=>false)&&(!i.isb&&(i.sle.isNone&&(!i.fnt&&i.fields.isEmpty)))))
    | .bool=>!i.agg&&(i.arr.isNone&&(i.ik.isNone&&(i.sle.isNone&&(!i.fnt&&i.fields.isEmpty))))
    | .slice e=>!i.agg&&(i.arr.isNone&&(i.ik.isNone&&(!i.isb&&((match i.sle with | some e'=>Nat.beq e e' | none=>false)&&(!i.fnt&&i.fields.isEmpty)))))
    | .func _ _ _=>!i.agg&&(i.arr.isNone&&(i.ik.isNone&&(!i.isb&&(i.sle.isNone&&i.fields.isEmpty))))
    | _=>!i.agg&&(i.arr.isNone&&(i.ik.isNone&&(!i.isb&&(i.sle.isNone&&(!i.fnt&&i.fields.isEmpty)))))))))
 | _,_=>false
theorem jk {P:Program}:∀{fs:List Field} {l:List (Nat×Nat)},hE P fs l=true->∀(f off ft:Nat),l[f]? =some (off,ft)->∃x,fs[f]? =some x/\x.offset=off/\x.type=ft/\∃i,P.info? ft=some i/\i.size≠0
 | [],[],_,f,off,ft,h=>by simp at h
 | x::fs,(off',ft')::l,hc,f,off,ft,h=>by
   simp only[hE,thm0] at hc
   cases f with
   | zero=>
     simp only[bK,bh,Prod.mk.injEq] at h
     obtain⟨rfl,rfl⟩:=h
     refine⟨x,rfl,thm1 hc.1,thm1 hc.2.1,?_⟩
     have h3:=hc.2.2.1
     split at h3
     ·rename_i i hi
      refine⟨i,hi,fun e=> ?_⟩
      rw[e] at h3
      simp at h3
     ·cases h3
   | succ f=>exact jk hc.2.2.2 f off ft (by simpa using h)
theorem oS {P:Program}:∀{fs:List Field} {l:List (Nat×Nat)},hE P fs l=true->fs.map (fun f=>(f.offset,f.type))=l
 | [],[],_=>rfl
 | x::fs,(off',ft')::l,hc=>by
   simp only[hE,thm0] at hc
   rw[List.map_cons,oS hc.2.2.2,thm1 hc.1,thm1 hc.2.1]
theorem asq {P:Program} {t:Nat} {a b c} (hd:P.underlying t=some (.func a b c)) (f:Nat) (fa fb) (w:World):(Op.equal t (.func (.func f) fa fb) .nilFunc).run P w=.ok false w/\(Op.equal t .nilFunc .nilFunc).run P w=.ok true w:=by
 unfold Op.equal
 have key:∀d x y,(Op.equalIn (d+1) t x y).run P w=_:=fun d x y=>by rw[Op.equalIn,Sem.run_bind,run_underlying hd]
 exact⟨(key 9999 _ _).trans rfl,(key 9999 _ _).trans rfl⟩
theorem bE {P:Program} {t:Nat} {i:TI} (h:ckTI P t i=true) (heq:i.eqok=true->∀vs us,aG vs i.zero->aG us i.zero->∀w,(Op.equal t (.agg vs.toArray) (.agg us.toArray)).run P w=.ok (eqVs vs us) w) (hgrd:i.eqok=true->P.eqGuardType P.depth t=false) (hkey:i.keyok=true->∀vs,aG vs i.zero->∀b w,(Instr.checkKey b 10000 t (.agg vs.toArray)).run P w=.ok () w):TIok P t i:=by
 unfold ckTI at h
 split at h
 ·rename_i inf d hinf hd
  simp only[thm0] at h
  obtain⟨⟨⟨hmt,hkd⟩,hzs⟩,h1,h2,hby,h3⟩:=h
  have hsz:=thm1 h1
  have hti:∀w,(typeInfo t).run P w=.ok inf w:=fun w=>by simp[typeInfo,program,Sem.run_bind,Sem.run,hinf]
  obtain⟨z,hz,hz1,hz2⟩:∃z,inf.zero=some z/\vS i.zero z.cells.toList=true/\z.cells.toList.length=i.size:=by
   split at h2
   ·rename_i z hz
    rw[thm0] at h2
    exact⟨z,hz,h2.1,thm1 h2.2⟩
   ·cases h2
  clear h1 h2
  refine⟨?_,fun w=>by simp[sizeOf,Sem.run_bind,hti,hsz],⟨z,fun w=>by simp[zeroValue,Sem.run_bind,hti,hz],fun U j=>oQ U j hz1⟩,?_,?_,?_,?_,?_,⟨d,hd⟩,heq,hgrd,?_,?_,?_,fun k e hk=> ?_,fun hk=> ?_,fun hk=> ?_,hkey,fun z' hz'=> ?_,⟨inf,z,hinf,hsz,thm1 hby,hz,hz2,fun U j=>oQ U j hz1⟩⟩
  ·intro w
   unfold isAgg
   rw[Sem.run_bind,run_underlying hd]
   cases d<;>simp_all
  ·intro f off ft hf w a
   cases d<;>simp_all
   rename_i fs
   obtain⟨x,hx,rfl,rfl,inf',hi,hne⟩:=jk (P:=P) h3.2.2.2.2.2.2 f off ft hf
   have hx':fs[f]? =some x:=by rw[<-iJ];exact hx
   have hs:∀w,(sizeOf x.type).run P w=.ok inf'.size w:=fun w=>by simp[sizeOf,typeInfo,program,Sem.run_bind,Sem.run,hi]
   simp[Instr.fieldAt,run_underlying hd,Sem.run_bind,hx',Instr.sureAddr,fieldPlace,hs,hne]
  ·intro f off ft hf w cs
   cases d<;>simp_all
   rename_i fs
   obtain⟨x,hx,rfl,rfl,inf',hi,hne⟩:=jk (P:=P) h3.2.2.2.2.2.2 f off ft hf
   have hx':fs[f]? =some x:=by rw[<-iJ];exact hx
   simp[Instr.field,run_underlying hd,Sem.run_bind,hx',asAgg]
  ·intro n e ha
   cases d<;>simp_all
  ·intro h1 h2
   cases d<;>simp_all
   exact oS (P:=P) h3.2.2.2.2
  ·intro k hk
   cases d<;>simp_all
   rw[az h3.2.2.1]
  ·intro hb
   cases d<;>simp_all
  ·intro e he
   cases d<;>simp_all
  ·intro hb f fa fb w
   cases d<;>simp_all
   exact asq hd f fa fb w
  ·rw[hk] at hmt
   dsimp only at hmt
   split at hmt
   ·simp only[thm0] at hmt
    rw[hd,thm1 hmt.1,thm1 hmt.2]
   ·cases hmt
  ·simp only[hk] at hkd
   cases d<;>first | exact⟨_,hd⟩ | cases hkd
  ·simp only[hk] at hkd
   cases d<;>first | exact hd | cases hkd
  ·have e0:=hz' ⟨#[],fun _ _=>0,0,default,#[]⟩
   have e1:z'=z:=by
    simp[zeroValue,Sem.run_bind,hti,hz] at e0
    exact e0.symm
   subst e1
   rw[hz] at hzs
   cases z'<;>simp_all [Value.cells]
 ·cases h
theorem ar:∀{z z':List C} {vs:List Value},aX z z'=true->aG vs z->aG vs z'
 | [],[],vs,_,h=>h
 | .int k a::l,.int k' b::r,vs,hk,h=>by
   simp only[aX,thm0] at hk
   obtain⟨x,us,rfl,h1,h2⟩:=ak h
   exact⟨az hk.1,h1,ar hk.2 h2⟩
 | .bool a::l,.bool b::r,vs,hk,h=>by
   simp only[aX] at hk
   obtain⟨x,us,rfl,h2⟩:=cv h
   exact ar (z:=l) (z':=r) hk h2
def bF:List Value->List Lit
 | .int k x::l=>.int k x::bF l
 | .bool b::l=>.bool b::bF l
 | _=>[]
theorem sB:∀{z:List C} {vs us:List Value},aG vs z->aG us z->(eqVs vs us=true↔bF vs=bF us)
 | [],vs,us,h,h'=>by rw[bf h,bf h'];simp[eqVs]
 | .int k e::r,vs,us,h,h'=>by
   obtain⟨x,l,rfl,_,h2⟩:=ak h
   obtain⟨y,m,rfl,_,g2⟩:=ak h'
   simp[eqVs,bF,sB h2 g2]
 | .bool e::r,vs,us,h,h'=>by
   obtain⟨x,l,rfl,h2⟩:=cv h
   obtain⟨y,m,rfl,g2⟩:=cv h'
   simp[eqVs,bF,sB h2 g2]
 | .yld _::_,vs,us,h,_ | .wn _ _ _ _ _::_,vs,us,h,_ | .aw _ _ _ _ _ _ _::_,vs,us,h,_ | .str _::_,vs,us,h,_ | .pe _ _ _ _ _ _::_,vs,us,h,_ | .nmp::_,vs,us,h,_ | .mp _::_,vs,us,h,_ | .itp _ _::_,vs,us,h,_ | .ptr _ _::_,vs,us,h,_ | .fp _ _::_,vs,us,h,_ | .fn _::_,vs,us,h,_ | .np::_,vs,us,h,_ | .undef::_,vs,us,h,_ | .sl _::_,vs,us,h,_ | .ep _ _ _ _::_,vs,us,h,_ | .nsl::_,vs,us,h,_ | .nf::_,vs,us,h,_ | .clo _ _ _::_,vs,us,h,_=>by
   cases vs with
   | nil=>exact h.elim
   | cons v l=>cases v<;>exact h.elim
theorem fe {P:Program} {t:Nat} {z:List C} (hk:P.keyTypeAt 6 t=true) (hf:∀vs,aG vs z->(Value.agg vs.toArray).formed P t=true) (D:Nat) (hl:∀vs,aG vs z->P.keyLits D t vs=some (bF vs)) (vs us:List Value) (hv:aG vs z) (hu:aG us z) (w:World):
  (Op.equal t (.agg vs.toArray) (.agg us.toArray)).run P w=.ok (eqVs vs us) w:=by
 obtain⟨r,hr,hiff⟩:=run_equalIn_deep (P:=P) 9994 6 t hk w D D (.agg vs.toArray) (.agg us.toArray) _ _ (hf vs hv) (hf us hu) (by simpa[Value.cells] using hl vs hv) (by simpa[Value.cells] using hl us hu)
 unfold Op.equal Op.maxDepth
 rw[show(10000:Nat)=9994+6 from rfl,hr]
 congr 1
 rw[aM,hiff,sB hv hu]
theorem cC {f:Nat->TI->Bool} {l:List (Nat×TI)} (h:(l.all fun p=>f p.1 p.2)=true) {t:Nat} {i:TI} (hm:(t,i)∈l):f t i=true:=thm7.1 h (t,i) hm
structure Ini where
 vk:List VK
 rows:List RowOb
 fb:List (List C)
def iniC (v id:Nat):CK->C×List VK×List RowOb
 | .int k=>(.int k (.var v),[.int k],[])
 | .bool=>(.bool (.bw v),[.bool],[])
 | .fn g=>(.fn g,[],[])
 | .lit k z=>(.int k (.lit z),[],[])
 | .sl ks ty=>(.sl id,[.list ks],[⟨ks,ty,.lw v,false,kdOf ks⟩])
 | .nf=>(.nf,[],[])
 | .any=>(.undef,[],[])
 | .rl ks ty L=>(.sl id,[],[⟨ks,ty,rlE ks .ln L,false,kdOf ks⟩])
 | .el ks ty=>(.ep id ks.length (.lit 0) 0,[.list ks],[⟨ks,ty,.lw v,false,kdOf ks⟩])
def iniL (v id:Nat):List CK->List C×List VK×List RowOb
 | []=>([],[],[])
 | k::ks=>let x:=iniC v id k;let y:=iniL (v+x.2.1.length) (id+x.2.2.length) ks;(x.1::y.1,x.2.1++y.2.1,x.2.2++y.2.2)
def iniA (v id fid:Nat):List Sh->List V×List VK×List RowOb×List (List C)
 | []=>([],[],[],[])
 | .one k::ss=>let x:=iniC v id k;let y:=iniA (v+x.2.1.length) (id+x.2.2.length) fid ss;(.one x.1::y.1,x.2.1++y.2.1,x.2.2++y.2.2.1,y.2.2.2)
 | .agg ks::ss=>let x:=iniL v id ks;let y:=iniA (v+x.2.1.length) (id+x.2.2.length) fid ss;(.agg x.1::y.1,x.2.1++y.2.1,x.2.2++y.2.2.1,y.2.2.2)
 | .ptr ks::ss=>let x:=iniL v id ks;let y:=iniA (v+x.2.1.length) (id+x.2.2.length) (fid+1) ss;(.one (.fp fid 0)::y.1,x.2.1++y.2.1,x.2.2++y.2.2.1,x.1::y.2.2.2)
def ckOk:CK->Bool
 | .sl ks _=>decide (0<ks.length)
 | .el ks _=>decide (0<ks.length) &&!bQ ks evKs
 | .any=>false
 | _=>true
def arb:CK->Bool
 | .any=>true
 | k=>ckOk k
def ahT:Sh->Bool
 | .ptr ks=>ks.all arb
 | s=>s.cks.all ckOk
def shOk (ss:List Sh):Bool:=ss.all ahT
section
variable {P:Program} {sp:Spec} {U:Env} {w:World}
theorem sY {U:Env}:∀(a b:List VK) (v:Nat),varsD U v (a++b)=varsD U v a++varsD U (v+a.length) b
 | [],b,v=>rfl
 | k::a,b,v=>by
   simp only[List.cons_append,varsD,sY a b (v+1),List.length_cons]
   rw[show v+1+a.length=v+(a.length+1) by omega]
theorem lu {U:Env}:∀(a:List VK) (v:Nat),(varsD U v a).length=a.length
 | [],v=>rfl
 | k::a,v=>by simp[varsD,lu a (v+1)]
theorem aae:∀{a b:List VK} {x y:List Dt},okDs a x->okDs b y->okDs (a++b) (x++y)
 | [],b,[],y,_,h=>h
 | k::a,b,d::x,y,h,h'=>⟨h.1,aae h.2 h'⟩
 | [],b,_::_,y,h,_=>h.elim
 | k::a,b,[],y,h,_=>by cases k<;>exact h.elim
theorem aad:∀{a:List VK} {x:List Dt},okDs a x->x.length=a.length
 | [],[],_=>rfl
 | k::a,d::x,h=>by simp[aad h.2]
 | [],_::_,h=>h.elim
 | k::a,[],h=>by cases k<;>exact h.elim
theorem arf (b:Bool):b2i b=0\/b2i b=1:=by cases b<;>simp[b2i]
structure ArgOk (w:World) (v id:Nat) (vk:List VK) (rows:List RowOb) (d:List Dt) (svs:List SV) (den:Env->J->Prop):Prop where
 len:svs.length=rows.length
 zz:∀s∈svs,∀p∈s.z,w.heap[p.1]? =some p.2/\isCl p.2=true
 ok:okDs vk d
 at':∀(U:Env) (j:J),varsD U v vk=d->(∀(i:Nat) s,svs[i]? =some s->j.s (id+i)=some s)->den U j/\∀(i:Nat) s q,svs[i]? =some s->rows[i]? =some q->q.own=false/\∀base,RowOk U base w s q
def evZ (w:World):List SV->List (Nat×Obj)
 | []=>[]
 | x::l=>(match x.blk false with
   | some k=>(match w.heap[k]? with | some o=>[(k,o)] | none=>[])
   | none=>[])++evZ w l
theorem akT:∀{ins:List SV},(∀x∈ins,∀k,x.blk false=some k->∃o,w.heap[k]? =some o/\isCl o=true)->∀p∈evZ w ins,w.heap[p.1]? =some p.2/\isCl p.2=true
 | [],_,p,hp=>by cases hp
 | x::l,h,p,hp=>by
   simp only[evZ,List.mem_append] at hp
   rcases hp with hp | hp
   ·cases hb:x.blk false with
    | none=>rw[hb] at hp;cases hp
    | some k=>
      obtain⟨o,h1,h2⟩:=h x bA k hb
      rw[hb] at hp
      simp only[h1,dk] at hp
      subst hp
      exact⟨h1,h2⟩
   ·exact akT (fun y hy=>h y (bZ _ hy)) p hp
theorem akU:∀{ins:List SV} {x:SV},x∈ins->∀p∈evZ w [x],p∈evZ w ins
 | y::l,x,h,p,hp=>by
   rcases List.mem_cons.1 h with rfl | h
   ·simp only[evZ,List.append_nil] at hp
    simp only[evZ,List.mem_append]
    exact .inl hp
   ·have:=akU h p hp
    simp only[evZ,List.mem_append]
    exact .inr this
theorem EvIn.ei {row:List Int} {x:SV} {z:List (Nat×Obj)} (h:EvIn w row x) (hz:∀p∈evZ w [x],p∈z):EiOk z row x:=by
 have blk:∀k,x.blk false=some k->∃o,(k,o)∈z/\w.heap[k]? =some o:=fun k hk=>by
  obtain⟨o,h1,h2⟩:=h.blk k hk
  exact⟨o,hz _ (by simp[evZ,hk,h1]),h1⟩
 refine⟨h.n,h.most,h.rest,fun w' hw=>h.rd.kept (fun k hk=> ?_),fun k hk=> ?_⟩
 ·obtain⟨o,h1,h2⟩:=blk k hk
  rw[h2];exact hw _ h1
 ·obtain⟨o,h1,_⟩:=blk k hk
  exact⟨o,h1⟩
theorem xV {k:CK} {xs r:List Dt} {u:Value} (hk:ckOk k=true) (h:vT w k xs u r) (v id:Nat):∃d svs,xs=d++r/\ArgOk w v id (iniC v id k).2.1 (iniC v id k).2.2 d svs (fun U j=>(iniC v id k).1.den U j=some u):=by
 cases k with
 | int k=>
   obtain⟨x,rfl,rfl,hx⟩:=h
   refine⟨[.z x],[],rfl,rfl,fun s hs=>(by cases hs),⟨hx,trivial⟩,fun U j hd _=>⟨?_,fun i s q hs=>by simp at hs⟩⟩
   simp only[iniC,varsD,varD,thm5,Dt.z.injEq,and_true] at hd
   simp[iniC,C.den,E.I,hd]
 | bool=>
   obtain⟨b,rfl,rfl⟩:=h
   refine⟨[.z (b2i b)],[],rfl,rfl,fun s hs=>(by cases hs),⟨arf b,trivial⟩,fun U j hd _=>⟨?_,fun i s q hs=>by simp at hs⟩⟩
   simp only[iniC,varsD,varD,thm5,Dt.z.injEq,and_true] at hd
   simp[iniC,C.den,E.B,oU hd]
 | fn g=>obtain⟨rfl,rfl⟩:=h;exact⟨[],[],rfl,rfl,fun s hs=>(by cases hs),trivial,fun U j _ _=>⟨rfl,fun i s q hs=>by simp at hs⟩⟩
 | lit k z=>obtain⟨rfl,rfl⟩:=h;exact⟨[],[],rfl,rfl,fun s hs=>(by cases hs),trivial,fun U j _ _=>⟨rfl,fun i s q hs=>by simp at hs⟩⟩
 | nf=>obtain⟨rfl,rfl⟩:=h;exact⟨[],[],rfl,rfl,fun s hs=>(by cases hs),trivial,fun U j _ _=>⟨rfl,fun i s q hs=>by simp at hs⟩⟩
 | any=>cases hk
 | el ks ty=>
   obtain⟨row,p,rfl,rfl,hrow,hlt,hcell⟩:=h
   have hL:RowsIn ks [row]:=⟨fun r hr=>(by rw[dk.1 hr];exact hrow),by simp[maxLen]⟩
   simp only[ckOk,thm0,bl,Bool.not_eq_true'] at hk
   have hkd:kdOf ks=.sl:=by
    rcases bC ks with⟨h1,_⟩ | ⟨_,h1⟩
    ·rw[h1] at hk;exact absurd hk.2 (by decide)
    ·exact h1
   have hp0:p.add 0=p:=by unfold Addr.add;split<;>simp_all
   refine⟨[.l [row]],[⟨some p,1,1,[]⟩],rfl,rfl,fun s' hs'=>(by rw[dk.1 hs'];intro p hp;cases hp),⟨hL,trivial⟩,fun U j hd hs=>⟨?_,fun i s' q hs' hq=> ?_⟩⟩
   ·have:=hs 0 _ rfl
    simp only[Nat.add_zero] at this
    simp[iniC,C.den,this,SV.elem,E.I,hp0]
   ·simp only[iniC,varsD,varD,thm5,Dt.l.injEq,and_true] at hd
    cases i with
    | succ i=>simp at hs'
    | zero=>
      simp only[iniC,bK,bh] at hs' hq
      subst hs' hq
      refine⟨rfl,fun base=>SlOk.row ⟨?_,?_,hk.1,fun k hb=> ?_,fun ho=>(by cases ho),?_⟩ hkd⟩
      ·simp only[E.R,hd];rfl
      ·simp only[E.R,hd];exact hL
      ·have hb:=aJ hb
       simp only[SV.v,Value.ownBlock,bh] at hb
       subst hb
       exact hlt
      ·simp only[E.R,hd]
       refine⟨by rw[bW hL.row];rfl,Nat.le_refl _,by simp[maxLen],fun h=>(by cases h),fun a ha i u hu=> ?_⟩
       cases ha
       exact hcell i u hu
 | rl ks ty L=>
   obtain⟨rfl,hok,s,rfl,hn,hrd,hlt⟩:=h
   refine⟨[],[{s with z:=[]}],rfl,rfl,fun s' hs'=>(by rw[dk.1 hs'];intro p hp;cases hp),trivial,fun U j hd hs=>⟨?_,fun i s' q hs' hq=> ?_⟩⟩
   ·have:=hs 0 _ rfl
    simp only[Nat.add_zero] at this
    show(j.s id).map SV.v=_
    rw[this];rfl
   ·obtain⟨hR,hrows,hp,hkd⟩:=xG (U:=U) hok
    unfold TRow at hrd
    rw[hkd] at hrd
    cases i with
    | succ i=>simp at hs'
    | zero=>
      simp only[iniC,bK,bh] at hs' hq
      subst hs' hq
      refine⟨rfl,fun base=>SlOk.row ⟨?_,?_,hp,hlt,fun ho=>(by cases ho),?_⟩ hkd⟩
      ·simp only[hR];exact hn
      ·simp only[hR];exact hrows
      ·simp only[hR];exact hrd
 | sl ks ty=>
   obtain⟨L,s,rfl,rfl,hn,hrd,hrows,hlt⟩:=h
   unfold TRow at hrd
   rcases bC ks with⟨hks,hkd⟩ | ⟨_,hkd⟩
   ·rw[hkd] at hrd
    obtain⟨ins,hi1,hi2,hi3⟩:=hrd
    have hblk:∀x∈ins,∀k,x.blk false=some k->∃o,w.heap[k]? =some o/\isCl o=true:=fun x hx=>by
     obtain⟨i,hi⟩:=List.getElem?_of_mem hx
     have hlt:i<L.length:=by rw[<-hi1];exact(bR.1 hi).1
     exact(hi3 i L[i] x (thm6 hlt) hi).blk
    refine⟨[.l L],[{s with z:=evZ w ins}],rfl,rfl,fun s' hs'=>(by rw[dk.1 hs'];exact akT hblk),⟨hrows,trivial⟩,fun U j hd hs=>⟨?_,fun i s' q hs' hq=> ?_⟩⟩
    ·have:=hs 0 _ rfl
     simp only[Nat.add_zero] at this
     show(j.s id).map SV.v=_
     rw[this];rfl
    ·simp only[iniC,varsD,varD,thm5,Dt.l.injEq,and_true] at hd
     cases i with
     | succ i=>simp at hs'
     | zero=>
       simp only[iniC,bK,bh] at hs' hq
       subst hs' hq
       refine⟨rfl,fun base=>EvOk.row ⟨hks,?_,?_,hlt,fun ho=>(by cases ho),ins,?_,fun ho=>(by cases ho),?_,fun i row x hr hx=> ?_⟩ hkd⟩
       ·simp only[E.R,hd];exact hn
       ·simp only[E.R,hd];exact hrows
       ·simp only[E.R,hd];exact hi1
       ·simp only[E.R,hd];exact hi2
       ·simp only[E.R,hd] at hr
        exact(hi3 i row x hr hx).ei (fun p hp=>(akU (ez hx)) p hp)
   ·rw[hkd] at hrd
    refine⟨[.l L],[{s with z:=[]}],rfl,rfl,fun s' hs'=>(by rw[dk.1 hs'];intro p hp;cases hp),⟨hrows,trivial⟩,fun U j hd hs=>⟨?_,fun i s' q hs' hq=> ?_⟩⟩
    ·have:=hs 0 _ rfl
     simp only[Nat.add_zero] at this
     show(j.s id).map SV.v=_
     rw[this];rfl
    ·simp only[iniC,varsD,varD,thm5,Dt.l.injEq,and_true] at hd
     cases i with
     | succ i=>simp at hs'
     | zero=>
       simp only[iniC,bK,bh] at hs' hq
       subst hs' hq
       refine⟨rfl,fun base=>SlOk.row ⟨?_,?_,thm3 hk,hlt,fun ho=>(by cases ho),?_⟩ hkd⟩
       ·simp only[E.R,hd];exact hn
       ·simp only[E.R,hd];exact hrows
       ·simp only[E.R,hd];exact hrd
theorem ArgOk.app {v id:Nat} {vk1 vk2:List VK} {rows1 rows2:List RowOb} {d1 d2:List Dt} {s1 s2:List SV} {den1 den2:Env->J->Prop} (h1:ArgOk w v id vk1 rows1 d1 s1 den1) (h2:ArgOk w (v+vk1.length) (id+rows1.length) vk2 rows2 d2 s2 den2):
  ArgOk w v id (vk1++vk2) (rows1++rows2) (d1++d2) (s1++s2) (fun U j=>den1 U j/\den2 U j):=by
 refine⟨by simp[h1.len,h2.len],fun s hs=>(List.mem_append.1 hs).elim (h1.zz s) (h2.zz s),aae h1.ok h2.ok,fun U j hd hs=> ?_⟩
 rw[sY] at hd
 obtain⟨e1,e2⟩:=List.append_inj hd (by rw[lu,aad h1.ok])
 obtain⟨a1,a2⟩:=h1.at' U j e1 (fun i s hi=>hs i s (by rw[thm8 (bR.1 hi).1];exact hi))
 obtain⟨b1,b2⟩:=h2.at' U j e2 (fun i s hi=>by
  have:=hs (s1.length+i) s (by rw[thm9 (by omega),Nat.add_sub_cancel_left];exact hi)
  rw[h1.len] at this
  rwa [Nat.add_assoc])
 refine⟨⟨a1,b1⟩,fun i s q hi hq=> ?_⟩
 rcases aV i s1.length with hlt | hge
 ·rw[thm8 hlt] at hi
  rw[thm8 (by rw[<-h1.len];exact hlt)] at hq
  exact a2 i s q hi hq
 ·rw[thm9 hge] at hi
  rw[thm9 (by rw[<-h1.len];exact hge),<-h1.len] at hq
  exact b2 _ s q hi hq
theorem agp:∀{ks:List CK} {xs r:List Dt} {us:List Value},ks.all ckOk=true->iB w ks xs us r->∀(v id:Nat),∃d svs,xs=d++r/\ArgOk w v id (iniL v id ks).2.1 (iniL v id ks).2.2 d svs (fun U j=>denL U j (iniL v id ks).1=some us)
 | [],xs,r,us,_,h,v,id=>by
   obtain⟨rfl,rfl⟩:=h
   exact⟨[],[],rfl,rfl,fun s hs=>(by cases hs),trivial,fun U j _ _=>⟨rfl,fun i s q hs=>by simp at hs⟩⟩
 | k::ks,xs,r,us,hk,h,v,id=>by
   simp only[List.all_cons,thm0] at hk
   obtain⟨u,us',r',rfl,h1,h2⟩:=h
   obtain⟨d1,s1,rfl,g1⟩:=xV hk.1 h1 v id
   obtain⟨d2,s2,rfl,g2⟩:=agp hk.2 h2 (v+(iniC v id k).2.1.length) (id+(iniC v id k).2.2.length)
   refine⟨d1++d2,s1++s2,by simp,?_⟩
   obtain⟨q1,qz,q2,q3⟩:=g1.app g2
   refine⟨q1,qz,q2,fun U j hd hs=> ?_⟩
   obtain⟨⟨a1,a2⟩,a3⟩:=q3 U j hd hs
   exact⟨by simp only[iniL,denL,a1,a2],a3⟩
def FbAt (w:World) (U:Env) (j:J) (fb:List (List C)) (fid:Nat) (fks:List Nat):Prop:=
 ∀(b:Nat) cs,fb[b]? =some cs->∃k vs,fks[b]? =some k/\k<w.heap.size/\denL U j cs=some vs/\∀(o:Nat) u,vs[o]? =some u->fW cs o=true->w.cell? ⟨k,o,none⟩=some u
theorem xU:∀{ks:List CK} {xs r:List Dt} {us:List Value},ks.all arb=true->iB w ks xs us r->∀(v id:Nat),∃d svs us',xs=d++r/\ArgOk w v id (iniL v id ks).2.1 (iniL v id ks).2.2 d svs (fun U j=>denL U j (iniL v id ks).1=some us')/\∀(o:Nat) u,us'[o]? =some u->fW (iniL v id ks).1 o=true->us[o]? =some u
 | [],xs,r,us,_,h,v,id=>by
   obtain⟨rfl,rfl⟩:=h
   exact⟨[],[],[],rfl,⟨rfl,fun s hs=>(by cases hs),trivial,fun U j _ _=>⟨rfl,fun i s q hs=>by simp at hs⟩⟩,fun o u hu=>by simp at hu⟩
 | k::ks,xs,r,us,hk,h,v,id=>by
   simp only[List.all_cons,thm0] at hk
   obtain⟨u,us1,r',rfl,h1,h2⟩:=h
   by_cases hany:k=.any
   ·subst hany
    have e1:xs=r':=h1
    subst e1
    obtain⟨d2,s2,us2,rfl,g2,g3⟩:=xU hk.2 h2 v id
    refine⟨d2,s2,Go.undef::us2,rfl,?_,fun o u' hu hs=> ?_⟩
    ·obtain⟨q1,qz,q2,q3⟩:=g2
     refine⟨q1,qz,q2,fun U j hd hs=> ?_⟩
     obtain⟨a1,a2⟩:=q3 U j hd hs
     exact⟨by simp only[iniL,iniC,denL,C.den];simp only[List.length_nil,Nat.add_zero];rw[a1],a2⟩
    ·cases o with
     | zero=>cases hs
     | succ o=>simpa using g3 o u' (by simpa using hu) hs
   ·have hk1:ckOk k=true:=by
     have:=hk.1
     cases k<;>first | exact this | exact absurd rfl hany
    obtain⟨d1,s1,rfl,g1⟩:=xV hk1 h1 v id
    obtain⟨d2,s2,us2,rfl,g2,g3⟩:=xU hk.2 h2 (v+(iniC v id k).2.1.length) (id+(iniC v id k).2.2.length)
    refine⟨d1++d2,s1++s2,u::us2,by simp,?_,fun o u' hu hs=> ?_⟩
    ·obtain⟨q1,qz,q2,q3⟩:=g1.app g2
     refine⟨q1,qz,q2,fun U j hd hs=> ?_⟩
     obtain⟨⟨a1,a2⟩,a3⟩:=q3 U j hd hs
     exact⟨by simp only[iniL,denL,a1,a2],a3⟩
    ·cases o with
     | zero=>simpa using hu
     | succ o=>simpa using g3 o u' (by simpa using hu) hs
theorem sE:∀{ss:List Sh} {xs:List Dt} {vals:List Value},shOk ss=true->kH w ss xs vals->∀(v id fid:Nat),∃svs fks,fks.length=(iniA v id fid ss).2.2.2.length/\(iniA v id fid ss).1.length=vals.length/\ArgOk w v id (iniA v id fid ss).2.1 (iniA v id fid ss).2.2.1 xs svs (fun U j=>(∀(i:Nat) k,fks[i]? =some k->j.f (fid+i)=some k)->(∀(i:Nat) x,(iniA v id fid ss).1[i]? =some x->∃u,vals[i]? =some u/\x.den U j=some u)/\FbAt w U j (iniA v id fid ss).2.2.2 fid fks)
 | [],xs,vals,_,h,v,id,fid=>by
   obtain⟨rfl,rfl⟩:=h
   exact⟨[],[],rfl,rfl,rfl,fun s hs=>(by cases hs),trivial,fun U j _ _=>⟨fun _=>⟨fun i x hx=>by simp[iniA] at hx,fun b cs hb=>by simp[iniA] at hb⟩,fun i s q hs=>by simp at hs⟩⟩
 | .one k::ss,xs,vals,hk,h,v,id,fid=>by
   simp only[shOk,ahT,List.all_cons,thm0,Sh.cks,List.all_nil,Bool.and_true] at hk
   obtain⟨u,us,r,rfl,h1,h2⟩:=h
   obtain⟨d1,s1,rfl,g1⟩:=xV hk.1 h1 v id
   obtain⟨s2,fks,hf,hl,g2⟩:=sE (ss:=ss) hk.2 h2 (v+(iniC v id k).2.1.length) (id+(iniC v id k).2.2.length) fid
   obtain⟨q1,qz,q2,q3⟩:=g1.app g2
   refine⟨s1++s2,fks,hf,by simp[iniA,hl],q1,qz,q2,fun U j hd hs=> ?_⟩
   obtain⟨⟨a1,a2⟩,a3⟩:=q3 U j hd hs
   refine⟨fun hj=> ?_,a3⟩
   obtain⟨b1,b2⟩:=a2 hj
   refine⟨fun i x hx=> ?_,b2⟩
   cases i with
   | zero=>simp only[iniA,bK,bh] at hx;subst hx;exact⟨u,rfl,a1⟩
   | succ i=>exact b1 i x (by simpa[iniA] using hx)
 | .agg ks::ss,xs,vals,hk,h,v,id,fid=>by
   simp only[shOk,ahT,List.all_cons,thm0,Sh.cks] at hk
   obtain⟨ws,us,r,rfl,h1,h2⟩:=h
   obtain⟨d1,s1,rfl,g1⟩:=agp hk.1 h1 v id
   obtain⟨s2,fks,hf,hl,g2⟩:=sE (ss:=ss) hk.2 h2 (v+(iniL v id ks).2.1.length) (id+(iniL v id ks).2.2.length) fid
   obtain⟨q1,qz,q2,q3⟩:=g1.app g2
   refine⟨s1++s2,fks,hf,by simp[iniA,hl],q1,qz,q2,fun U j hd hs=> ?_⟩
   obtain⟨⟨a1,a2⟩,a3⟩:=q3 U j hd hs
   refine⟨fun hj=> ?_,a3⟩
   obtain⟨b1,b2⟩:=a2 hj
   refine⟨fun i x hx=> ?_,b2⟩
   cases i with
   | zero=>simp only[iniA,bK,bh] at hx;subst hx;exact⟨_,rfl,by simp[V.den,a1]⟩
   | succ i=>exact b1 i x (by simpa[iniA] using hx)
 | .ptr ks::ss,xs,vals,hk,h,v,id,fid=>by
   simp only[shOk,ahT,List.all_cons,thm0] at hk
   obtain⟨kk,ws,us,r,rfl,h1,hlt,hcell,h2⟩:=h
   obtain⟨d1,s1,ws',rfl,g1,gw⟩:=xU hk.1 h1 v id
   obtain⟨s2,fks,hf,hl,g2⟩:=sE (ss:=ss) hk.2 h2 (v+(iniL v id ks).2.1.length) (id+(iniL v id ks).2.2.length) (fid+1)
   obtain⟨q1,qz,q2,q3⟩:=g1.app g2
   refine⟨s1++s2,kk::fks,by simp[iniA,hf],by simp[iniA,hl],q1,qz,q2,fun U j hd hs=> ?_⟩
   obtain⟨⟨a1,a2⟩,a3⟩:=q3 U j hd hs
   refine⟨fun hj=> ?_,a3⟩
   obtain⟨b1,b2⟩:=a2 (fun i k hi=>by
    have:=hj (i+1) k (by simpa using hi)
    rwa [show fid+(i+1)=fid+1+i by omega] at this)
   refine⟨fun i x hx=> ?_,fun b cs hb=> ?_⟩
   ·cases i with
    | zero=>
      simp only[iniA,bK,bh] at hx
      subst hx
      have:=hj 0 kk rfl
      rw[Nat.add_zero] at this
      exact⟨_,rfl,by simp[V.den,C.den,this]⟩
    | succ i=>exact b1 i x (by simpa[iniA] using hx)
   ·cases b with
    | zero=>
      simp only[iniA,bK,bh] at hb
      subst hb
      exact⟨kk,ws',rfl,hlt,a1,fun o u hu hs=>hcell o u (gw o u hu hs)⟩
    | succ b=>exact b2 b cs (by simpa[iniA] using hb)
theorem dw (w:World) (o:Obj):w.heap.size<(w.alloc o).heap.size:=by
 have h:=heap_alloc_new w o
 rcases aV w.heap.size (w.alloc o).heap.size with h1 | h1
 ·exact h1
 ·rw[Array.getElem?_eq_none h1] at h;cases h
theorem EvIn.mono {w':World} (hx:Ext w w') {row:List Int} {x:SV} (h:EvIn w row x):EvIn w' row x:=by
 have lt:∀k,x.blk false=some k->k<w.heap.size:=fun k hk=>by
  obtain⟨o,h1,_⟩:=h.blk k hk
  exact(ey.1 h1).1
 refine⟨h.n,h.most,h.rest,h.rd.kept (fun k hk=>hx.block k (lt k hk)),fun k hk=> ?_⟩
 obtain⟨o,h1,h2⟩:=h.blk k hk
 exact⟨o,by rw[hx.block k (lt k hk)];exact h1,h2⟩
theorem TRow.mono {w':World} (hx:Ext w w') {ks:List CE} {s:SV} {L:List (List Int)} (h:TRow w ks s L) (hb:∀k,s.blk false=some k->k<w.heap.size):TRow w' ks s L:=by
 unfold TRow at h ⊢
 split
 ·rename_i hk
  rw[hk] at h
  obtain⟨ins,h1,h2,h3⟩:=h
  exact⟨ins,h1,h2.kept (fun k hk=>hx.block k (hb k hk)),fun i row x hr hi=>(h3 i row x hr hi).mono hx⟩
 ·rename_i hk
  rcases bC ks with⟨_,h1⟩ | ⟨_,h1⟩
  ·exact absurd h1 hk
  ·rw[h1] at h
   exact h.kept (fun k hk=>hx.block k (hb k hk))
theorem lf {w':World} (hx:Ext w w') {k:CK} {xs r:List Dt} {u:Value} (h:vT w k xs u r):vT w' k xs u r:=by
 cases k with
 | sl ks ty=>
   obtain⟨L,s,h1,h2,h3,h4,h5,h6⟩:=h
   exact⟨L,s,h1,h2,h3,h4.mono hx h6,h5,fun k hk=>Nat.lt_of_lt_of_le (h6 k hk) hx.size⟩
 | el ks ty=>
   obtain⟨row,p,h1,h2,h3,h4,h5⟩:=h
   refine⟨row,p,h1,h2,h3,Nat.lt_of_lt_of_le h4 hx.size,fun c u hu=> ?_⟩
   rw[World.cell?_of_block (a:=p.add c) (hx.block _ (by unfold Addr.add;split<;>exact h4))]
   exact h5 c u hu
 | rl ks ty L=>
   obtain⟨h1,h2,s,h3,h4,h5,h6⟩:=h
   exact⟨h1,h2,s,h3,h4,h5.mono hx h6,fun k hk=>Nat.lt_of_lt_of_le (h6 k hk) hx.size⟩
 | _=>exact h
theorem ji {w':World} (hx:Ext w w'):∀{ks:List CK} {xs r:List Dt} {us:List Value},iB w ks xs us r->iB w' ks xs us r
 | [],_,_,_,h=>h
 | k::ks,xs,r,us,h=>by
   obtain⟨u,us',r',h1,h2,h3⟩:=h
   exact⟨u,us',r',h1,lf hx h2,ji hx h3⟩
def Lens (xs:List Dt):Prop:=∀L,Dt.l L∈xs->L.length<=maxLen
theorem Lens.tail {d:Dt} {xs:List Dt} (h:Lens (d::xs)):Lens xs:=fun L hL=>h L (bZ _ hL)
def yc:CK->Bool
 | .sl ks _=>!bQ ks evKs
 | _=>true
theorem aaH {k:CK} {xs r:List Dt} (hv:yc k=true) (h:ckIn k xs r) (hl:Lens xs) (w:World):∃w' u,Ext w w'/\vT w' k xs u r/\Lens r:=by
 cases k with
 | int k=>obtain⟨x,rfl,hx⟩:=h;exact⟨w,_,.refl w,⟨x,rfl,rfl,hx⟩,hl.tail⟩
 | bool=>obtain⟨b,rfl⟩:=h;exact⟨w,_,.refl w,⟨b,rfl,rfl⟩,hl.tail⟩
 | fn g=>exact⟨w,_,.refl w,⟨h,rfl⟩,by rw[<-show xs=r from h];exact hl⟩
 | lit k z=>exact⟨w,_,.refl w,⟨h,rfl⟩,by rw[<-show xs=r from h];exact hl⟩
 | nf=>exact⟨w,_,.refl w,⟨h,rfl⟩,by rw[<-show xs=r from h];exact hl⟩
 | any=>exact⟨w,Go.undef,.refl w,h,by rw[<-show xs=r from h];exact hl⟩
 | el ks ty=>
   obtain⟨row,rfl,hrow⟩:=h
   refine⟨w.alloc (.cells (flat ks [row]).toArray ty),.pointer (some ⟨w.heap.size,0,none⟩),(Ext.refl w).alloc _,⟨row,_,rfl,rfl,hrow,dw w _,fun c u hu=> ?_⟩,hl.tail⟩
   have:(⟨w.heap.size,0,none⟩:Addr).add c=⟨w.heap.size,c,none⟩:=by unfold Addr.add;split<;>simp_all
   rw[this,hG (heap_alloc_new w _)]
   exact hu
 | rl ks ty L=>
   obtain⟨rfl,hok⟩:=h
   obtain⟨_,hL,hp,hkd⟩:=xG (U:=⟨fun _=>0,fun _=>false,fun _=>[]⟩) hok
   have hT:∀w' s,RdRow w' ks.length s (flat ks L)->TRow w' ks s L:=fun w' s h=>by
    unfold TRow
    rw[hkd];exact h
   refine⟨w.alloc (.cells (flat ks L).toArray ty),(SV.mk (some ⟨w.heap.size,0,none⟩) L.length L.length []).v,(Ext.refl w).alloc _,⟨rfl,hok,⟨some ⟨w.heap.size,0,none⟩,L.length,L.length,[]⟩,rfl,rfl,hT _ _ ⟨bW hL.row,Nat.le_refl _,hL.len,fun h=>(by cases h),fun a ha i u hu=> ?_⟩,fun k hk=> ?_⟩,hl⟩
   ·cases ha
    have:(⟨w.heap.size,0,none⟩:Addr).add i=⟨w.heap.size,i,none⟩:=by unfold Addr.add;split<;>simp_all
    rw[this,hG (heap_alloc_new w _)]
    exact hu
   ·have hk:=aJ hk
    simp only[SV.v,Value.ownBlock,bh] at hk
    subst hk
    exact dw w _
 | sl ks ty=>
   obtain⟨L,rfl,hL⟩:=h
   have hlen:L.length<=maxLen:=hl L bA
   have hT:∀w' s,RdRow w' ks.length s (flat ks L)->TRow w' ks s L:=fun w' s h=>by
    unfold TRow
    rcases bC ks with⟨h1,_⟩ | ⟨_,h1⟩
    ·rw[h1] at hv;cases hv
    ·rw[h1];exact h
   refine⟨w.alloc (.cells (flat ks L).toArray ty),(SV.mk (some ⟨w.heap.size,0,none⟩) L.length L.length []).v,(Ext.refl w).alloc _,⟨L,⟨some ⟨w.heap.size,0,none⟩,L.length,L.length,[]⟩,rfl,rfl,rfl,hT _ _ ⟨bW hL,Nat.le_refl _,hlen,fun h=>(by cases h),fun a ha i u hu=> ?_⟩,⟨hL,hlen⟩,fun k hk=> ?_⟩,hl.tail⟩
   ·cases ha
    have:(⟨w.heap.size,0,none⟩:Addr).add i=⟨w.heap.size,i,none⟩:=by unfold Addr.add;split<;>simp_all
    rw[this,hG (heap_alloc_new w _)]
    exact hu
   ·have hk:=aJ hk
    simp only[SV.v,Value.ownBlock,bh] at hk
    subst hk
    exact dw w _
theorem oR:∀{ks:List CK} {xs r:List Dt},ks.all yc=true->abD ks xs r->Lens xs->∀(w:World),∃w' us,Ext w w'/\iB w' ks xs us r/\Lens r
 | [],xs,r,_,h,hl,w=>⟨w,[],.refl w,⟨h,rfl⟩,by rw[<-show xs=r from h];exact hl⟩
 | k::ks,xs,r,hv,h,hl,w=>by
   simp only[List.all_cons,thm0] at hv
   obtain⟨r',h1,h2⟩:=h
   obtain⟨w1,u,e1,g1,l1⟩:=aaH hv.1 h1 hl w
   obtain⟨w2,us,e2,g2,l2⟩:=oR hv.2 h2 l1 w1
   exact⟨w2,u::us,e1.trans e2,⟨u,us,r',rfl,lf e2 g1,g2⟩,l2⟩
def lO (ss:List Sh):Bool:=ss.all fun s=>s.cks.all yc
theorem hZ:∀{ss:List Sh} {xs:List Dt},lO ss=true->ag7 ss xs->Lens xs->∀(w:World),∃w' vals,Ext w w'/\kH w' ss xs vals
 | [],xs,_,h,_,w=>⟨w,[],.refl w,h,rfl⟩
 | .one k::ss,xs,hv,h,hl,w=>by
   simp only[lO,List.all_cons,thm0,Sh.cks,List.all_nil,Bool.and_true] at hv
   obtain⟨r,⟨r1,h1,h2⟩,h3⟩:=h
   cases h2
   obtain⟨w1,u,e1,g1,l1⟩:=aaH hv.1 h1 hl w
   obtain⟨w2,us,e2,g2⟩:=hZ (ss:=ss) hv.2 h3 l1 w1
   exact⟨w2,u::us,e1.trans e2,u,us,_,rfl,lf e2 g1,g2⟩
 | .agg ks::ss,xs,hv,h,hl,w=>by
   simp only[lO,List.all_cons,thm0,Sh.cks,List.all_nil,Bool.and_true] at hv
   obtain⟨r,h1,h3⟩:=h
   obtain⟨w1,u,e1,g1,l1⟩:=oR hv.1 h1 hl w
   obtain⟨w2,us,e2,g2⟩:=hZ (ss:=ss) hv.2 h3 l1 w1
   exact⟨w2,_,e1.trans e2,u,us,_,rfl,ji e2 g1,g2⟩
 | .ptr ks::ss,xs,hv,h,hl,w=>by
   simp only[lO,List.all_cons,thm0,Sh.cks,List.all_nil,Bool.and_true] at hv
   obtain⟨r,h1,h3⟩:=h
   obtain⟨w1,u,e1,g1,l1⟩:=oR hv.1 h1 hl w
   have e2:Ext w1 (w1.alloc (.cells u.toArray 0)):=(Ext.refl w1).alloc _
   obtain⟨w3,us,e3,g3⟩:=hZ (ss:=ss) hv.2 h3 l1 (w1.alloc (.cells u.toArray 0))
   have hlt:w1.heap.size<(w1.alloc (.cells u.toArray 0)).heap.size:=dw w1 _
   refine⟨w3,_,e1.trans (e2.trans e3),w1.heap.size,u,us,_,rfl,ji (e2.trans e3) g1,Nat.lt_of_lt_of_le hlt e3.size,fun o v ho=> ?_,g3⟩
   rw[World.cell?_of_block (a:=⟨w1.heap.size,o,none⟩) (e3.block _ hlt),hG (heap_alloc_new w1 _)]
   exact ho
theorem qe:∀{ss:List Sh} {xs:List Dt},(ss.all fun s=>s.cks.all fun k=>!k.isSl)=true->ag7 ss xs->Lens xs
 | [],xs,_,h=>by cases h;intro L hL;cases hL
 | s::ss,xs,hk,h=>by
   simp only[List.all_cons,thm0] at hk
   obtain⟨r,h1,h2⟩:=h
   have ih:=qe hk.2 h2
   have key:∀(ks:List CK) (xs r:List Dt),ks.all (fun k=>!k.isSl)=true->abD ks xs r->Lens r->Lens xs:=by
    intro ks
    induction ks with
    | nil=>intro xs r _ h hl;cases h;exact hl
    | cons k ks ihk=>
      intro xs r hk h hl
      simp only[List.all_cons,thm0] at hk
      obtain⟨r',h1,h2⟩:=h
      have l2:=ihk r' r hk.2 h2 hl
      cases k with
      | int k=>
        obtain⟨x,rfl,_⟩:=h1
        intro L hL
        rcases List.mem_cons.1 hL with e | hL
        ·cases e
        ·exact l2 L hL
      | bool=>
        obtain⟨x,rfl⟩:=h1
        intro L hL
        rcases List.mem_cons.1 hL with e | hL
        ·cases e
        ·exact l2 L hL
      | sl ks ty=>simp[CK.isSl] at hk
      | rl ks ty L=>rw[h1.1];exact l2
      | el ks ty=>
        obtain⟨row,rfl,_⟩:=h1
        intro L hL
        rcases List.mem_cons.1 hL with e | hL
        ·cases e;simp[maxLen]
        ·exact l2 L hL
      | _=>rw[show xs=r' from h1];exact l2
   exact key _ xs r hk.1 h1 ih
theorem vh {ds:List Dt} {v0:Nat}:∀(ks:List CK) (n:Nat),fc ks (ds.drop n)->eqs U ds v0 n ks->(∀(m:Nat) k,ks[m]? =some (.int k)->inK k (U.i (v0+(n+m)))=true)/\∀(m:Nat) k ty,ks[m]? =some (.sl k ty)->RowsIn k (U.l (v0+(n+m)))
 | [],n,_,_=>⟨fun m k h=>by simp at h,fun m k ty h=>by simp at h⟩
 | k::ks,n,h,he=>by
   cases hd:ds.drop n with
   | nil=>rw[hd] at h;cases k<;>exact h.elim
   | cons d r=>
     rw[hd] at h
     obtain⟨d1,d2⟩:=dg hd
     have main:fc ks r/\eqs U ds v0 (n+1) ks/\(∀k',k=.int k'->inK k' (U.i (v0+n))=true)/\∀k' ty,k=.sl k' ty->RowsIn k' (U.l (v0+n)):=by
      cases k with
      | int k=>
        cases d with
        | z x=>exact⟨h.2,he.2,fun k' e=>(by cases e;rw[he.1,agL d1];exact h.1),fun k' ty e=>(by cases e)⟩
        | l L=>exact h.elim
      | sl ks0 ty=>
        cases d with
        | z x=>exact h.elim
        | l L=>exact⟨h.2,he.2,fun k' e=>(by cases e),fun k' ty e=>(by cases e;rw[he.1,ajQ d1];exact h.1)⟩
      | bool=>exact⟨h,he.2,fun k' e=>(by cases e),fun k' ty e=>(by cases e)⟩
      | _=>exact⟨h,he,fun k' e=>(by cases e),fun k' ty e=>(by cases e)⟩
     obtain⟨m1,m2,m3,m4⟩:=main
     obtain⟨i1,i2⟩:=vh ks (n+1) (by rw[d2];exact m1) m2
     refine⟨fun m k' hm=> ?_,fun m k' ty hm=> ?_⟩
     ·cases m with
      | zero=>simp only[bK,bh] at hm;exact m3 k' hm
      | succ m=>
        have:=i1 m k' (by simpa using hm)
        rwa [show n+(m+1)=n+1+m by omega]
     ·cases m with
      | zero=>simp only[bK,bh] at hm;exact m4 k' ty hm
      | succ m=>
        have:=i2 m k' ty (by simpa using hm)
        rwa [show n+(m+1)=n+1+m by omega]
def ak4 (args res:List Sh) (pre:List Dt->Prop):Prop:=(args.all fun a=>a.cks.all fun k=>!k.isSl)=true\/((∀xs,pre xs->Lens xs)/\lO args=true)\/(res.all fun a=>a.cks.all fun k=>match k with | .int _=>false | .sl _ _=>false | _=>true)=true
theorem agD {ss:List Sh} (h:(ss.all fun a=>a.cks.all fun k=>!k.isSl)=true):lO ss=true:=by
 unfold lO
 rw[thm7] at h ⊢
 intro s hs
 have:=h s hs
 rw[thm7] at this ⊢
 intro k hk
 have:=this k hk
 cases k<;>first | rfl | (simp[CK.isSl] at this)
theorem SmOk.of_calls {s:Sm} (hl:ak4 s.args s.res (sp.pre s.key))
  (h:∀xs vals w,kH w s.args xs vals->sp.pre s.key xs->sp.hw w->
   (∃v w',(callFunc s.f vals.toArray).run P w=.ok (.value v) w'/\RetOk s.res s.tup w w' (sp.F s.key xs) v)\/((callFunc s.f vals.toArray).run P w=.ok (.enter s.f vals.toArray) w/\Calls P s.f vals.toArray w fun e w'=>∃v,e=.returned v/\RetOk s.res s.tup w w' (sp.F s.key xs) v)) (hn:s.inp=none:=by rfl):SmOk P sp s:=by
 refine⟨fun _=>h,fun ks ty e=>(by rw[hn] at e;cases e),fun xs hin hpre U v0 he=> ?_⟩
 have hlen:(Lens xs/\lO s.args=true)\/((∀(n:Nat) k,s.ks[n]? =some (.int k)->inK k (U.i (v0+n))=true)/\(∀(n:Nat) ks ty,s.ks[n]? =some (.sl ks ty)->RowsIn ks (U.l (v0+n)))):=by
  rcases hl with hl | hl | hl
  ·exact .inl ⟨qe hl hin,agD hl⟩
  ·exact .inl ⟨hl.1 xs hpre,hl.2⟩
  ·right
   have key:∀k∈s.ks,(match k with | .int _=>false | .sl _ _=>false | _=>true)=true:=fun k hk=>by
    obtain⟨a,ha,hk⟩:=List.mem_flatMap.1 hk
    exact thm7.1 (thm7.1 hl a ha) k hk
   exact⟨fun n k hk=>(by have:=key _ (ez hk);cases this),fun n ks ty hk=>(by have:=key _ (ez hk);cases this)⟩
 rcases hlen with⟨hlen,hev⟩ | hdone
 rotate_left
 ·exact hdone
 obtain⟨wi,hwi⟩:=sp.hi
 obtain⟨w,vals,hxi,hw⟩:=hZ hev hin hlen wi
 have hres:fc (s.res.flatMap (·.cks)) (sp.F s.key xs):=by
  rcases h xs vals w hw hpre (sp.hx _ _ hxi hwi) with⟨v,w',_,hr⟩ | ⟨_,hc⟩
  ·exact hr.rng
  ·obtain⟨e,w',_,⟨v,_,hr⟩,_⟩:=hc []
   exact hr.rng
 have he':eqs U (sp.F s.key xs) v0 0 (s.res.flatMap (·.cks)):=he
 have:=vh (U:=U) (ds:=sp.F s.key xs) (v0:=v0) (s.res.flatMap (·.cks)) 0 (by simpa using hres) he'
 simpa[Sm.ks] using this
def eK:List VK->(List Dt->Prop)->Prop
 | [],p=>p []
 | .int k::l,p=>∀x,inK k x=true->eK l fun r=>p (.z x::r)
 | .bool::l,p=>∀b:Bool,eK l fun r=>p (.z (b2i b)::r)
 | .list ks::l,p=>∀L,RowsIn ks L->eK l fun r=>p (.l L::r)
theorem fd:∀{l:List VK} {p:List Dt->Prop},eK l p->∀xs,okDs l xs->p xs
 | [],p,h,[],_=>h
 | .int k::l,p,h,.z x::r,ho=>fd (h x ho.1) r ho.2
 | .bool::l,p,h,.z x::r,ho=>by
   rcases ho.1 with rfl | rfl
   ·exact fd (h false) r ho.2
   ·exact fd (h true) r ho.2
 | .list ks::l,p,h,.l L::r,ho=>fd (h L ho.1) r ho.2
 | [],p,h,_::_,ho=>ho.elim
 | .int _::_,p,h,[],ho=>ho.elim
 | .bool::_,p,h,[],ho=>ho.elim
 | .list _::_,p,h,[],ho=>ho.elim
 | .int _::_,p,h,.l _::_,ho=>ho.1.elim
 | .bool::_,p,h,.l _::_,ho=>ho.1.elim
 | .list _::_,p,h,.z _::_,ho=>ho.1.elim
def ajA:List Sm->Bool
 | []=>true
 | s::l=>(l.all fun x=>!Nat.beq x.key s.key)&&ajA l
theorem agk:∀{l:List Sm},ajA l=true->∀s∈l,∀s'∈l,s.key=s'.key->s=s'
 | [],_,s,hs,_,_,_=>by cases hs
 | x::l,h,s,hs,s',hs',he=>by
   simp only[ajA,thm0,thm7,Bool.not_eq_true'] at h
   rcases List.mem_cons.1 hs with rfl | hs<;>rcases List.mem_cons.1 hs' with rfl | hs'
   ·rfl
   ·have:=h.1 s' (by assumption)
    rw[he] at this
    simp at this
   ·have:=h.1 s (by assumption)
    rw[he] at this
    simp at this
   ·exact agk h.2 s (by assumption) s' (by assumption) he
def abp (ss:List Sh):List V×List VK×List RowOb×List (List C):=iniA 0 0 0 ss
def arP (hints:List (Nat×List Pl)):Option E:=match av 999996 hints with
 | some [.gone l,.gone n,.gone c,.gone z]=>some (.eq (.get (.lw l) (.var n) c) (.lit z))
 | _=>none
def adc (hints:List (Nat×List Pl)) (k:Kw->Tr) (kw:Kw):Tr:=match arP hints with
 | some e=>decK e (fun b kw=>if b then k kw else .stuck 261) kw
 | none=>k kw
theorem adb {sp:Spec} {sm:List Sm} {U:Env} {G:Env->E->Prop} {I:Nat->List Dt->Prop} {hints:List (Nat×List Pl)} {k:Kw->Tr} {kw:Kw} (h:(adc hints k kw).holds sp G U I) (hg:Good sp sm U kw):∃kw',(k kw').holds sp G U I/\Good sp sm U kw'/\kw'.vk=kw.vk:=by
 unfold adc at h
 split at h
 ·obtain⟨kw',h1,h2,h3,_⟩:=aY _ _ _ h hg
  split at h1
  ·exact⟨kw',h1,h2,h3⟩
  ·exact h1.elim
 ·exact⟨kw,h,hg,rfl⟩
def ao9 (ty:List (Nat×TI)) (sm:List Sm) (fns:List (Nat×Func×List (Nat×List Pl)×List (Nat×List Pl))) (hints cuts:List (Nat×List Pl)) (fuel:Nat) (fn:Func) (args res:List Sh):Tr:=
 adc hints (funK ⟨ty,sm,res,(abp args).2.2.2,hints,cuts,fns⟩ fuel fn (abp args).1 ((abp args).2.2.1.map .row)) ⟨if(av 999997 hints).isSome then[(.tt true,true)] else[],[],(abp args).2.1,0⟩
def ap (ty:List (Nat×TI)) (sm:List Sm) (fns:List (Nat×Func×List (Nat×List Pl)×List (Nat×List Pl))) (hints cuts:List (Nat×List Pl)) (fuel:Nat) (fn:Func) (args res:List Sh) (tup:Bool) (vks:List VK) (t:Tr):Prop:=
 ao9 ty sm fns hints cuts fuel fn args res=t/\(abp args).2.1=vks/\(t.sc vks.length&&(shOk args&&((Nat.beq res.length 1 == !tup)&&(ajA sm&&(!(fn.name== "runtime.NumGoroutine") &&!fn.body.isNone)))))=true
theorem fn0 {P:Program}:∀p∈([]:List (Nat×Func×List (Nat×List Pl)×List (Nat×List Pl))),P.funcs[p.1]? =some p.2.1:=fun _ h=>by cases h
theorem fnc {P:Program} {g:Nat} {fn:Func} {x:List (Nat×List Pl)×List (Nat×List Pl)} {l:List (Nat×Func×List (Nat×List Pl)×List (Nat×List Pl))} (h:P.funcs[g]? =some fn) (h':∀p∈l,P.funcs[p.1]? =some p.2.1):∀p∈(g,fn,x)::l,P.funcs[p.1]? =some p.2.1:=List.forall_mem_cons.2 ⟨h,h'⟩
theorem vE {sp':Spec} {f:Nat} {args res:List Sh} {tup:Bool} {ty:List (Nat×TI)} {sm:List Sm} {fns:List (Nat×Func×List (Nat×List Pl)×List (Nat×List Pl))} {hints cuts:List (Nat×List Pl)} {fuel:Nat} {fn:Func} {vks:List VK} {t:Tr} {F:List Dt->List Dt} {pre:List Dt->Prop} (hm:P.follows .mixedOrders=true) (hT:∀t i,(t,i)∈ty->TIok P t i) (hS:∀s∈sm,SmOk P sp' s) (hf:P.funcs[f]? =some fn)
  (hF':∀p∈fns,P.funcs[p.1]? =some p.2.1) (ht:ap ty sm fns hints cuts fuel fn args res tup vks t)
  (h:eK vks fun xs=>pre xs->∀U,varsD U 0 vks=xs->t.asks sp' (fun U e=>e.D U=F xs) U fun _ _=>False) (xs:List Dt) (vals:List Value) (w:World) (hw:kH w args xs vals) (hpre:pre xs) (hhw:sp'.hw w):
  (callFunc f vals.toArray).run P w=.ok (.enter f vals.toArray) w/\Calls P f vals.toArray w fun e w'=>∃v,e=.returned v/\RetOk res tup w w' (F xs) v:=by
 obtain⟨ht1,hv1,ht2⟩:=ht
 simp only[thm0,dl,Bool.not_eq_true'] at ht2
 obtain⟨hsc,hok,htup,hkeys,hname,hbody⟩:=ht2
 refine⟨dd hf hname hbody _ w,?_⟩
 obtain⟨svs,fks,hfl,hvl,harg⟩:=sE hok hw 0 0 0
 have hv2:(iniA 0 0 0 args).2.1=vks:=hv1
 rw[hv2] at harg
 let U0:Env:=Env.put ⟨fun _=>0,fun _=>false,fun _=>[]⟩ 0 xs
 have hv0:∀U',Ag vks.length U0 U'->varsD U' 0 vks=xs:=fun U' ha=>jY harg.ok (by rw[bn];exact ha)
 obtain⟨U',h1,h2⟩:=abz (G:=fun U e=>e.D U=F xs) t vks.length U0 (fun _ _=>False) hsc (fun U' ha=>fd h xs harg.ok hpre U' (hv0 U' ha))
 let j:J:=⟨fun _=>none,fun id=>svs[id]?,fun b=>fks[b]?,⟨fun _=>none,clz w⟩⟩
 obtain⟨a1,a2⟩:=harg.at' U' j (hv0 U' h1) (fun i s hi=>by rw[bn];exact hi)
 obtain⟨a3,a4⟩:=a1 (fun i k hi=>by rw[bn];exact hi)
 rw[<-ht1] at h2
 have hvk:Vk U' vks:=by
  have hd:=hv0 U' h1
  have ho:=harg.ok
  have key:∀(l:List VK) (n:Nat),okDs l (varsD U' n l)->(∀(i:Nat) k,l[i]? =some (.int k)->inK k (U'.i (n+i))=true)/\∀(i:Nat) ks,l[i]? =some (.list ks)->RowsIn ks (U'.l (n+i)):=by
   intro l
   induction l with
   | nil=>intro n _;exact⟨fun i k h=>by simp at h,fun i k h=>by simp at h⟩
   | cons x l ih=>
     intro n h
     obtain⟨i1,i2⟩:=ih (n+1) h.2
     refine⟨fun i k hk=> ?_,fun i ks hk=> ?_⟩
     ·cases i with
      | zero=>simp at hk;subst hk;exact h.1
      | succ i=>
        have:=i1 i k (by simpa using hk)
        rwa [show n+(i+1)=n+1+i by omega]
     ·cases i with
      | zero=>simp at hk;subst hk;exact h.1
      | succ i=>
        have:=i2 i ks (by simpa using hk)
        rwa [show n+(i+1)=n+1+i by omega]
  obtain⟨k1,k2⟩:=key _ 0 (by rw[hd];exact ho)
  exact⟨fun i k hk=>by have:=k1 i k hk;rwa [bn] at this,fun i k hk=>by have:=k2 i k hk;rwa [bn] at this⟩
 obtain⟨kw',h2,hg',_⟩:=adb h2 ⟨fun p hp=>(by
   split at hp
   ·rw[dk.1 hp];rfl
   ·cases hp),by rw[hv1];exact hvk,fun p hp=>(by cases hp)⟩
 refine aoD (hF:=hF') (U:=U') (j:=j) (kw:=kw') (cx:=⟨ty,sm,res,(abp args).2.2.2,hints,cuts,fns⟩) hm hT hS (agk hkeys) hf a3 hvl.symm htup h2 hg' w ⟨fun b ob hb=> ?_,fun b hb=> ?_,fun b=>rfl,rfl,fun b s hs=> ?_,fun b cs hb=> ?_⟩ hhw
 ·rw[jq,thm4] at hb
  obtain⟨q,hq,rfl⟩:=hb
  have hlt:b<svs.length:=by rw[harg.len];exact(bR.1 hq).1
  obtain⟨g1,g2⟩:=a2 b svs[b] q (thm6 hlt) hq
  exact⟨q,svs[b],rfl,g1,thm6 hlt,g2 _⟩
 ·rw[List.length_map] at hb
  exact bB (by rw[harg.len];exact hb)
 ·exact harg.zz s (ez hs)
 ·exact a4 b cs hb
theorem sm0 {sp:Spec}:∀s∈([]:List Sm),SmOk P sp s:=fun _ h=>by cases h
theorem smc {sp:Spec} {s:Sm} {l:List Sm} (h:SmOk P sp s) (h':∀s∈l,SmOk P sp s):∀x∈s::l,SmOk P sp x:=List.forall_mem_cons.2 ⟨h,h'⟩
theorem au {sp sp':Spec} {s:Sm} {ty:List (Nat×TI)} {sm:List Sm} {fns:List (Nat×Func×List (Nat×List Pl)×List (Nat×List Pl))} {hints cuts:List (Nat×List Pl)} {fuel:Nat} {fn:Func} {vks:List VK} {t:Tr} {F:List Dt->List Dt} {pre:List Dt->Prop} (hF:sp.F s.key=F) (hP:sp.pre s.key=pre) (hm:P.follows .mixedOrders=true) (hT:∀t i,(t,i)∈ty->TIok P t i) (hS:∀s∈sm,SmOk P sp' s) (hf:P.funcs[s.f]? =some fn)
  (hF':∀p∈fns,P.funcs[p.1]? =some p.2.1) (ht:ap ty sm fns hints cuts fuel fn s.args s.res s.tup vks t) (hl:ak4 s.args s.res pre)
  (h:eK vks fun xs=>pre xs->∀U,varsD U 0 vks=xs->t.asks sp' (fun U e=>e.D U=F xs) U fun _ _=>False) (hn:s.inp=none:=by rfl) (hW:∀w,sp.hw w->sp'.hw w:=by exact fun _ _=>trivial):SmOk P sp s:=
 SmOk.of_calls (by rw[hP];exact hl) (fun xs vals w hw hpre hhw=>.inr (by rw[hF];rw[hP] at hpre;exact vE hm hT hS hf hF' ht h xs vals w hw hpre (hW w hhw))) hn
theorem SmOk.pureW {s:Sm} {F:List Dt->List Dt} (hF:sp.F s.key=F) (hl:(s.args.all fun a=>a.cks.all fun k=>!k.isSl)=true) (hr:((s.res.flatMap (·.cks)).filter CK.isSl)=[])
  (h:∀xs vals w,kH w s.args xs vals->sp.hw w->∃X,((callFunc s.f vals.toArray).run P w=.ok (.value X) w\/((callFunc s.f vals.toArray).run P w=.ok (.enter s.f vals.toArray) w/\Calls P s.f vals.toArray w fun e w'=>e=.returned X/\Ext w w'))/\fc (s.res.flatMap (·.cks)) (F xs)/\∀(U:Env) v0 nid j,eqs U (F xs) v0 0 (s.res.flatMap (·.cks))->(eZ s.res s.tup v0 nid).den U j=some X) (hn:s.inp=none:=by rfl):SmOk P sp s:=by
 refine SmOk.of_calls (.inl hl) (fun xs vals w hw _ hh=> ?_) hn
 obtain⟨X,h1,h2,h3⟩:=h xs vals w hw hh
 rw[hF]
 have ret:∀w',Ext w w'->RetOk s.res s.tup w w' (F xs) X:=fun w' hx=>
  ⟨hx,h2,[],by rw[hr];rfl,fun U v0 nid j he _=>h3 U v0 nid j he,fun U v0 _ i u r hu=>by simp at hu,fun i i' u u' k hu=>(by simp at hu),fun u hu=>(by cases hu)⟩
 rcases h1 with h1 | ⟨h1,hc⟩
 ·exact .inl ⟨X,w,h1,ret w (.refl w)⟩
 ·exact .inr ⟨h1,hc.mono fun e w' he=>⟨X,he.1,ret w' he.2⟩⟩
theorem SmOk.pure {s:Sm} {F:List Dt->List Dt} (hF:sp.F s.key=F) (hl:(s.args.all fun a=>a.cks.all fun k=>!k.isSl)=true) (hr:((s.res.flatMap (·.cks)).filter CK.isSl)=[])
  (h:∀xs vals w,kH w s.args xs vals->∃X,((callFunc s.f vals.toArray).run P w=.ok (.value X) w\/((callFunc s.f vals.toArray).run P w=.ok (.enter s.f vals.toArray) w/\Calls P s.f vals.toArray w fun e w'=>e=.returned X/\Ext w w'))/\fc (s.res.flatMap (·.cks)) (F xs)/\∀(U:Env) v0 nid j,eqs U (F xs) v0 0 (s.res.flatMap (·.cks))->(eZ s.res s.tup v0 nid).den U j=some X) (hn:s.inp=none:=by rfl):SmOk P sp s:=
 SmOk.pureW hF hl hr (fun xs vals w hw _=>h xs vals w hw) hn
def gN:Value->Bool
 | .int k z=>inK k z
 | _=>true
def gD:Value->Bool
 | .agg cs=>cs.toList.all gN
 | v=>gN v
def iI:Value->Bool
 | .tuple vs=>vs.toList.all gD
 | v=>gD v
theorem RetOk.says {w w':World} {v:Value} (h:RetOk [.one .bool] false w w' [.z 1] v):v=.bool true:=by
 obtain⟨svs,_,h1,_⟩:=h.svs
 have:=h1 ⟨fun _=>0,fun _=>true,fun _=>[]⟩ 0 0 ⟨fun _=>none,fun id=>svs[id]?,fun _=>none,Gh.zero⟩ ⟨rfl,trivial⟩ (fun i u hi=>by rw[bn];exact hi)
 cases this
 rfl
@[simp] theorem b2i_eq_iff {a b:Bool}:(b2i a=b2i b)=(a=b):=propext ⟨oU,fun h=>by rw[h]⟩
@[simp] theorem b2i_one {a:Bool}:(b2i a==1)=a:=oV a
theorem zb {a b:Bool} (h:a=b):[Dt.z (b2i a)]=[Dt.z (b2i b)]:=by rw[h]
def E.vs (n:Nat):Nat->E->E
 | 0,t=>t
 | k+1,t=>.cons (.var n) (E.vs (n+1) k t)
def S1:=And.intro (@List.getElem?_cons_zero Dt) (And.intro (@List.getElem?_cons_succ Dt) (And.intro (@List.cons_append Dt) (And.intro (@List.nil_append Dt) (And.intro (@List.cons_append CK) (And.intro (@List.nil_append CK) (And.intro bn (And.intro Nat.add_zero (And.intro and_true (And.intro true_and @b2i_one)))))))))
def kdN:Nat->Option IntKind
 | 0=>some .i8
 | 1=>some .u64
 | 2=>some .i64
 | 3=>some .u8
 | 4=>some .i32
 | 5=>some .u32
 | _=>none
def kN:Nat->Nat->List CE
 | 0,_=>[]
 | n+1,m=>kdN (m % 10)::kN n (m / 10)
def zN:Nat->Nat->List C
 | 0,_=>[]
 | n+1,m=>(match kdN (m % 10) with
   | some k=>.int k (.lit 0)
   | none=>.bool (.tt false))::zN n (m / 10)
def E.zs:List Int->E->E
 | [],t=>t
 | z::l,t=>.cons (.lit z) (E.zs l t)
def E.zr:Nat->E->E
 | 0,t=>t
 | n+1,t=>.cons (.lit 0) (E.zr n t)
def E.rgs (d x:E):Nat->Nat->E->E->E->E
 | _,_,_,.nil,t=>t
 | n+1,r,.nil,o,t=>E.rgs d x n (r+1) x o t
 | n+1,r,.cons y ys,.cons o os,t=>.cons (.ite (.eq d (.lit r)) y o) (E.rgs d x n r ys os t)
 | _,_,_,_,t=>t
def E.rg (d x o t:E):E:=E.rgs d x 120 0 x o t
def E.pv (n:Nat):List Int->E->E
 | [],t=>t
 | z::l,t=>.and (.eq (.var n) (.lit z)) (E.pv (n-1) l t)
def E.gs (l i:E) (c:Nat):Nat->E->E
 | 0,t=>t
 | k+1,t=>.cons (.get l i c) (E.gs l i (c+1) k t)
def E.ins (l i t:E):E:=E.gs l i 0 4 (.cb (.getb l i 4) (E.gs l i 5 4 t))
def E.sv (a:Nat):Nat->E
 | 0=>.nil
 | k+1=>.cons (.var a) (E.sv (a+9) k)
def E.tn (i:E) (a:Nat):Nat->E->E
 | 0,t=>t
 | k+1,t=>.cons (.nth i (E.sv a 11)) (E.tn i (a+1) k t)
def E.sg (l i:E) (c:Nat):Nat->E
 | 0=>.nil
 | k+1=>.cons (.get l i c) (E.sg l i (c+9) k)
def E.tg (e l i:E) (c:Nat):Nat->E->E
 | 0,t=>t
 | k+1,t=>.cons (.nth e (E.sg l i c 11)) (E.tg e l i (c+1) k t)
def E.iv (c:E) (a b:Nat):Nat->E->E
 | 0,t=>t
 | k+1,t=>.cons (.ite c (.var a) (.var b)) (E.iv c (a+1) (b+1) k t)
end
open Go.ChangeShapes Go.WideShapes
structure Rw (P:Program) (t:TypeId) (ks:List CE):Prop where
 cells:P.cellsOf t=ks.length
 opn:∀{H:Type} {enc:TypeId×Value->H} {W:World} {sp:Nat->Bool} {hd:Bool} {fuel:Nat} {cs:List Value} {d:DataW H×List MemPlace},
  DataW.trod enc P W 0 sp hd fuel t cs=some d->∃r,cs=rowV ks r/\aD ks r=true
theorem vD {k:IntKind} {x:Int} (h:(Lit.int k x).wf=true):inK k x=true:=by
 simp only[Lit.wf,thm0,bl] at h
 rw[bp];exact h
theorem Rw.int {P:Program} {t:TypeId} (k:IntKind) (ht:P.underlying t=some (.int k)) (hc:P.cellsOf t=1):Rw P t [some k] where
 cells:=hc
 opn:=fun h=>by
  obtain⟨x,h1,_,h2⟩:=DataW.trod_int ht h
  exact⟨[x],h1,by simp[aD,inCE,vD h2]⟩
theorem Rw.bool {P:Program} {t:TypeId} (ht:P.underlying t=some .bool) (hc:P.cellsOf t=1):Rw P t [none] where
 cells:=hc
 opn:=fun h=>by
  obtain⟨x,h1,_⟩:=DataW.trod_bool ht h
  exact⟨[b2i x],by cases x<;>exact h1,by cases x<;>rfl⟩
theorem rX:∀{ks ks':List CE} {r r':List Int},aD ks r=true->rowV (ks++ks') (r++r')=rowV ks r++rowV ks' r'
 | [],ks',[],r',_=>rfl
 | k::ks,ks',x::r,r',h=>by
   simp only[aD,thm0] at h
   simp only[List.cons_append,rowV,rX h.2]
theorem og:∀{ks ks':List CE} {r r':List Int},aD ks r=true->aD ks' r'=true->aD (ks++ks') (r++r')=true
 | [],ks',[],r',_,h=>h
 | k::ks,ks',x::r,r',h,h'=>by
   simp only[aD,thm0] at h
   simp only[List.cons_append,aD,h.1,og h.2 h',Bool.and_self]
structure RwSeq (P:Program) (off:Nat) (fs:List Field) (ks:List CE):Prop where
 opn:∀{H:Type} {enc:TypeId×Value->H} {W:World} {sp:Nat->Bool} {hd:Bool} {n:Nat} {cs:List Value},
  (∀f∈fs,∃y,DataW.trod enc P W 0 sp hd n f.type ((cs.drop f.offset).take (P.cellsOf f.type))=some y)->cs.length=off+ks.length->∃r,cs.drop off=rowV ks r/\aD ks r=true
theorem RwSeq.nil (P:Program) (off:Nat):RwSeq P off [] []:=⟨fun _ hl=>⟨[],List.drop_eq_nil_of_le (by simp at hl;omega),rfl⟩⟩
theorem RwSeq.cons {P:Program} {off:Nat} {f:Field} {fs:List Field} {ks ks':List CE} (r:Rw P f.type ks) (ho:f.offset=off) (s:RwSeq P (off+ks.length) fs ks'):RwSeq P off (f::fs) (ks++ks'):=⟨fun {H} {enc} {W} {sp} {hd} {n} {cs} h hl=>by
  obtain⟨y,hy⟩:=h f (by simp)
  rw[r.cells,ho] at hy
  obtain⟨a,ha,ha'⟩:=r.opn hy
  obtain⟨b,hb,hb'⟩:=s.opn (fun g hg=>h g (by simp[hg])) (by simp at hl;omega)
  refine⟨a++b,?_,og ha' hb'⟩
  rw[rX ha',<-ha,<-hb,<-List.drop_drop,List.take_append_drop]⟩
theorem Rw.struct {P:Program} {t:TypeId} {fs:Array Field} {ks:List CE} (s:RwSeq P 0 fs.toList ks) (ht:P.underlying t=some (.struct fs)) (hc:P.cellsOf t=ks.length):Rw P t ks where
 cells:=hc
 opn:=fun {H} {enc} {W} {sp} {hd} {fuel} {cs} {d} h=>by
  obtain⟨xs,n,_,_,hl,hlen,hf⟩:=DataW.trod_struct ht h
  have:=s.opn (enc:=enc) (W:=W) (sp:=sp) (hd:=hd) (n:=n) (cs:=cs) (fun f hm=>by
   obtain⟨i,hi,he⟩:=List.getElem_of_mem hm
   have hi':i<fs.size:=by simpa using hi
   have h1:=hf i f (by rw[Array.getElem?_eq_getElem hi'];simpa using congrArg some he)
   rw[thm6 (by omega)] at h1
   exact⟨_,h1⟩) (by omega)
  simpa using this
theorem ajz {α:Type} {n:Nat} {Q:Nat->α->Prop} (h:∀i,i<n->∃x,Q i x):∃l:List α,l.length=n/\∀i x,l[i]? =some x->Q i x:=by
 induction n with
 | zero=>exact⟨[],rfl,by simp⟩
 | succ n ih=>
   obtain⟨l,hl,hq⟩:=ih (fun i hi=>h i (by omega))
   obtain⟨x,hx⟩:=h n (by omega)
   refine⟨l++[x],by simp[hl],fun i y hy=> ?_⟩
   rw[List.getElem?_append] at hy
   split at hy
   ·exact hq i y hy
   ·have:i=n:=by
     rcases aV (i-l.length) 1 with h1 | h1
     ·omega
     ·rw[bB (by simpa using h1)] at hy;cases hy
    subst this
    have:i-l.length=0:=by omega
    rw[this] at hy
    simp at hy
    subst hy
    exact hx
theorem ajS {W:World} {a:Addr} {n:Nat} {cs:List Value} (h:W.cells? 0 a n=some cs) (hn:0<n):a.block<W.heap.size/\a.spot=none:=by
 obtain⟨_,hlen,hat⟩:=World.cells?_some h
 have h0:=hat 0 hn
 rw[thm6 (by omega)] at h0
 obtain⟨b,off,spot⟩:=a
 have hs:spot=none:=by
  cases spot with
  | none=>rfl
  | some s=>
    exfalso
    simp[Addr.add,World.cell?] at h0
    split at h0<;>simp at h0
 subst hs
 refine⟨?_,rfl⟩
 rcases aV b W.heap.size with h1 | h1
 ·exact h1
 ·simp[Addr.add,World.cell?,Array.getElem?_eq_none h1] at h0
theorem ql {U U':Env} {m:Nat} (h:Ag m U U'):∀(vks:List VK) (n:Nat),n+vks.length<=m->varsD U' n vks=varsD U n vks
 | [],_,_=>rfl
 | k::vks,n,hn=>by
   simp only[List.length_cons] at hn
   have h1:=h n (by omega)
   simp only[varsD,ql h vks (n+1) (by omega)]
   congr 1
   cases k<;>simp only[varD,h1.1,h1.2.1,h1.2.2]
def repL (ks:List CE):Nat->List CE
 | 0=>[]
 | n+1=>ks++repL ks n
theorem zR (ks:List CE):∀n,(repL ks n).length=n*ks.length
 | 0=>by simp[repL]
 | n+1=>by simp only[repL,eA,zR ks n,Nat.succ_mul];omega
theorem Rw.array {P:Program} {t e:TypeId} {ks:List CE} {n:Nat} (r:Rw P e ks) (ht:P.underlying t=some (.array n e)) (hc:P.cellsOf t=(repL ks n).length):Rw P t (repL ks n) where
 cells:=hc
 opn:=fun {H} {enc} {W} {sp} {hd} {fuel} {cs} {d} h=>by
  obtain⟨xs,m,_,_,hl,hlen,hf⟩:=DataW.trod_array ht h
  rw[hc,zR] at hl
  have key:∀(k i:Nat),i+k=n->∃q,cs.drop (i*ks.length)=rowV (repL ks k) q/\aD (repL ks k) q=true:=by
   intro k
   induction k with
   | zero=>intro i hi;exact⟨[],by rw[List.drop_eq_nil_of_le (by rw[hl];exact Nat.mul_le_mul_right _ (by omega))];rfl,rfl⟩
   | succ k ih=>
     intro i hi
     have h1:=hf i (by omega)
     rw[r.cells,thm6 (by omega)] at h1
     obtain⟨a,ha,ha'⟩:=r.opn h1
     obtain⟨b,hb,hb'⟩:=ih (i+1) (by omega)
     refine⟨a++b,?_,og ha' hb'⟩
     show _=rowV (ks++repL ks k) _
     rw[rX ha',<-ha,<-hb,Nat.succ_mul,<-List.drop_drop,List.take_append_drop]
  obtain⟨q,h1,h2⟩:=key n 0 (by omega)
  rw[Nat.zero_mul,List.drop_zero] at h1
  exact⟨q,h1,h2⟩
theorem abd {k:CE} {ks:List CE} {q:List Int} (h:aD (k::ks) q=true):∃x q',q=x::q'/\inCE k x=true/\aD ks q'=true:=by
 cases q with
 | nil=>cases h
 | cons x q'=>
   simp only[aD,thm0] at h
   exact⟨x,q',rfl,h.1,h.2⟩
theorem afB {q:List Int} (h:aD [] q=true):q=[]:=by
 cases q with
 | nil=>rfl
 | cons=>cases h
def Kl (P:Program) (d t:Nat) (z:List C):Prop:=∀vs,aG vs z->P.keyLits d t vs=some (bF vs)
def repC (z:List C):Nat->List C
 | 0=>[]
 | n+1=>z++repC z n
theorem cX:∀{z:List C} {vs:List Value},aG vs z->vs.length=z.length
 | [],vs,h=>by rw[bf h];rfl
 | .int k e::r,vs,h=>by
   obtain⟨x,l,rfl,_,h2⟩:=ak h
   simp[cX h2]
 | .bool e::r,vs,h=>by
   obtain⟨x,l,rfl,h2⟩:=cv h
   simp[cX h2]
 | .yld _::_,vs,h | .wn _ _ _ _ _::_,vs,h | .aw _ _ _ _ _ _ _::_,vs,h | .str _::_,vs,h | .pe _ _ _ _ _ _::_,vs,h | .nmp::_,vs,h | .mp _::_,vs,h | .itp _ _::_,vs,h | .ptr _ _::_,vs,h | .fp _ _::_,vs,h | .fn _::_,vs,h | .np::_,vs,h | .undef::_,vs,h | .sl _::_,vs,h | .ep _ _ _ _::_,vs,h | .nsl::_,vs,h | .nf::_,vs,h | .clo _ _ _::_,vs,h=>by
   cases vs with
   | nil=>exact h.elim
   | cons v l=>cases v<;>exact h.elim
theorem gZ:∀{z z':List C} {vs:List Value},aG vs (z++z')->∃v1 v2,vs=v1++v2/\aG v1 z/\aG v2 z'/\bF vs=bF v1++bF v2
 | [],z',vs,h=>⟨[],vs,rfl,trivial,h,rfl⟩
 | .int k e::r,z',vs,h=>by
   obtain⟨x,l,rfl,hx,h2⟩:=ak (r:=r++z') h
   obtain⟨v1,v2,rfl,h3,h4,h5⟩:=gZ h2
   exact⟨.int k x::v1,v2,rfl,⟨rfl,hx,h3⟩,h4,by simp[bF,h5]⟩
 | .bool e::r,z',vs,h=>by
   obtain⟨x,l,rfl,h2⟩:=cv (r:=r++z') h
   obtain⟨v1,v2,rfl,h3,h4,h5⟩:=gZ h2
   exact⟨.bool x::v1,v2,rfl,h3,h4,by simp[bF,h5]⟩
 | .yld _::_,_,vs,h | .wn _ _ _ _ _::_,_,vs,h | .aw _ _ _ _ _ _ _::_,_,vs,h | .str _::_,_,vs,h | .pe _ _ _ _ _ _::_,_,vs,h | .nmp::_,_,vs,h | .mp _::_,_,vs,h | .itp _ _::_,_,vs,h | .ptr _ _::_,_,vs,h | .fp _ _::_,_,vs,h | .fn _::_,_,vs,h | .np::_,_,vs,h | .undef::_,_,vs,h | .sl _::_,_,vs,h | .ep _ _ _ _::_,_,vs,h | .nsl::_,_,vs,h | .nf::_,_,vs,h | .clo _ _ _::_,_,vs,h=>by
   cases vs with
   | nil=>exact h.elim
   | cons v l=>cases v<;>exact h.elim
theorem Kl.int {P:Program} {d t:Nat} {k:IntKind} (e:E) (ht:P.underlying t=some (.int k)):Kl P (d+1) t [.int k e]:=fun vs hv=>by
 obtain⟨x,l,rfl,hx,h2⟩:=ak hv
 obtain rfl:=bf h2
 have hw:(Lit.int k x).wf=true:=hx
 simp[Program.keyLits,ht,bF,hw]
theorem Kl.array {P:Program} {d t e n:Nat} {z:List C} (h:Kl P d e z) (ht:P.underlying t=some (.array n e)) (he:P.cellsOf e=z.length) (hc:P.cellsOf t=n*z.length):Kl P (d+1) t (repC z n):=fun vs hv=>by
 have key:∀(k i:Nat) (cs us:List Value),cs.drop (i*z.length)=us->aG us (repC z k)->∃ls,((List.range' i k).mapM fun i=>P.keyLits d e ((cs.drop (i*P.cellsOf e)).take (P.cellsOf e)))=some ls/\ls.flatten=bF us:=by
  intro k
  induction k with
  | zero=>intro i cs us _ hu;exact⟨[],rfl,by rw[bf hu];rfl⟩
  | succ k ih=>
    intro i cs us hd hu
    obtain⟨v1,v2,rfl,h1,h2,h3⟩:=gZ (z:=z) (z':=repC z k) hu
    have hl:=cX h1
    obtain⟨ls,g1,g2⟩:=ih (i+1) cs v2 (by rw[Nat.succ_mul,<-List.drop_drop,hd,List.drop_left' hl]) h2
    refine⟨bF v1::ls,?_,by rw[List.flatten_cons,g2,h3]⟩
    rw[List.range'_succ,List.mapM_cons,he,hd,List.take_left' hl,h v1 h1]
    rw[he] at g1
    simp only[Option.pure_def,Option.bind_eq_bind,Option.bind_some,g1]
 obtain⟨ls,g1,g2⟩:=key n 0 vs vs (by simp) hv
 have hl:vs.length=P.cellsOf t:=by
  have hr:∀m,(repC z m).length=m*z.length:=fun m=>by
   induction m with
   | zero=>simp[repC]
   | succ m ih=>simp only[repC,eA,ih,Nat.succ_mul];omega
  rw[hc,cX hv,hr]
 simp only[Program.keyLits,ht,hl,if_true]
 rw[List.range_eq_range',g1]
 simp[g2]
def KlSeq (P:Program) (d off:Nat) (fs:List Field) (z:List C):Prop:=∀(cs us:List Value),cs.drop off=us->aG us z->∃ls,(fs.mapM fun f=>P.keyLits d f.type ((cs.drop f.offset).take (P.cellsOf f.type)))=some ls/\ls.flatten=bF us
theorem KlSeq.nil (P:Program) (d off:Nat):KlSeq P d off [] []:=fun cs us _ hu=>⟨[],rfl,by rw[bf hu];rfl⟩
theorem KlSeq.cons {P:Program} {d off:Nat} {f:Field} {fs:List Field} {z z':List C} (h:Kl P d f.type z) (ho:f.offset=off) (hc:P.cellsOf f.type=z.length) (h':KlSeq P d (off+z.length) fs z'):KlSeq P d off (f::fs) (z++z'):=fun cs us hd hu=>by
 obtain⟨v1,v2,rfl,h1,h2,h3⟩:=gZ hu
 have hl:=cX h1
 obtain⟨ls,g1,g2⟩:=h' cs v2 (by rw[<-List.drop_drop,hd,List.drop_left' hl]) h2
 refine⟨bF v1::ls,?_,by rw[List.flatten_cons,g2,h3]⟩
 rw[List.mapM_cons,ho,hc,hd,List.take_left' hl,h v1 h1]
 simp only[Option.pure_def,Option.bind_eq_bind,Option.bind_some,g1]
theorem Kl.struct {P:Program} {d t:Nat} {fs:Array Field} {z:List C} (h:KlSeq P d 0 fs.toList z) (ht:P.underlying t=some (.struct fs)) (hc:P.cellsOf t=z.length) (hn:fs.all (·.name != "_")=true):Kl P (d+1) t z:=fun vs hv=>by
 obtain⟨ls,g1,g2⟩:=h vs vs rfl hv
 have hl:vs.length=P.cellsOf t:=by rw[hc,cX hv]
 simp only[Program.keyLits,ht,hl,hn,and_self,if_true,g1]
 simp[g2]
theorem agx {P:Program} {t:Nat} {fs:Array Field} {z:List C} (ht:P.underlying t=some (.struct fs)) (hc:P.cellsOf t=z.length) (vs:List Value) (hv:aG vs z):(Value.agg vs.toArray).formed P t=true:=by
 simp[Value.formed,ht,hc,cX hv]
def gS0:=And.intro @Dt.z.injEq (And.intro @Dt.l.injEq @b2i_eq_iff)
def tiq2:TI:=⟨false,1,[.int .i64 (.lit 0)],[],none,some .i64,false,false,none,8,false,none,false,0⟩
def fP:TI:=⟨false,1,[.int .u64 (.lit 0)],[],none,some .u64,false,false,none,8,false,none,false,0⟩
def ic:TI:=⟨true,4,(zN 4 2211),[(0,42),(1,42),(2,2),(3,2)],none,none,false,false,none,32,false,none,false,0⟩
def ac4:TI:=⟨true,2,[.int .u64 (.lit 0),.int .u64 (.lit 0)],[(0,42),(1,42)],none,none,false,false,none,16,false,none,false,0⟩
def ac3:TI:=⟨true,2,[.int .i64 (.lit 0),.int .i64 (.lit 0)],[(0,2),(1,2)],none,none,false,false,none,16,false,none,false,0⟩
def tiq3:TI:=⟨false,1,[.int .i64 (.lit 0)],[],none,some .i64,false,false,none,8,false,none,false,0⟩
def tiq4:TI:=⟨false,1,[.bool (.tt false)],[],none,none,false,true,none,1,false,none,false,0⟩
def ig:TI:=⟨false,1,[.int .i8 (.lit 0)],[],none,some .i8,false,false,none,1,false,none,false,0⟩
def yC:TI:=⟨false,1,[.int .u64 (.lit 0)],[],none,some .u64,false,false,none,8,false,none,false,0⟩
def kD:TI:=⟨true,2,[.int .u64 (.lit 0),.int .u64 (.lit 0)],[(0,42),(1,42)],none,none,false,false,none,16,false,none,false,0⟩
def ahz:TI:=⟨true,6,(zN 6 112211),[(0,44),(4,46)],none,none,false,false,none,48,false,none,false,0⟩
def ahA:TI:=⟨false,1,[.int .i64 (.lit 0)],[],none,some .i64,false,false,none,8,false,none,false,0⟩
def dW:TI:=⟨true,6,(zN 6 112211),[(0,44),(4,46)],none,none,true,false,none,48,false,none,false,0⟩
def tO:TI:=⟨true,9,(zN 9 221122110),[(0,37),(1,48),(7,3),(8,3)],none,none,true,false,none,72,false,none,false,0⟩
def wk:TI:=⟨true,99,(zN 99 221122110221122110221122110221122110221122110221122110221122110221122110221122110221122110221122110),[],some (11,50),none,false,false,none,792,false,none,false,0⟩
def wj:TI:=⟨true,72,(zN 72 221122110221122110221122110221122110221122110221122110221122110221122110),[],some (8,50),none,false,false,none,576,false,none,false,0⟩
def ac0:TI:=⟨true,171,(zN 171 221122110221122110221122110221122110221122110221122110221122110221122110221122110221122110221122110221122110221122110221122110221122110221122110221122110221122110221122110),[(0,51),(99,52)],none,none,false,false,none,1368,false,none,false,0⟩
def aaW:TI:=⟨true,9,(zN 9 220090000),[(0,37),(1,37),(2,37),(3,37),(4,4),(5,37),(6,37),(7,3),(8,3)],none,none,true,false,none,24,false,none,false,0⟩
def ac2:TI:=⟨false,1,[.nsl],[],none,none,false,false,some 39,24,false,none,false,0⟩
def ac1:TI:=⟨true,2,[.int .i64 (.lit 0),.nsl],[(0,3),(1,22)],none,none,false,false,none,32,false,none,false,0⟩
def apd:TI:=⟨false,1,[.nsl],[],none,none,false,false,some 3,24,false,none,false,0⟩
def aj7:TI:=⟨false,1,[.int .u32 (.lit 0)],[],none,some .u32,false,false,none,4,false,none,false,0⟩
def alV:TI:=⟨false,1,[.nsl],[],none,none,false,false,some 4,24,false,none,false,0⟩
def alU:TI:=⟨false,1,[.nsl],[],none,none,false,false,some 54,24,false,none,false,0⟩
def alT:TI:=⟨true,2,[.nsl,.nsl],[(0,30),(1,31)],none,none,false,false,none,48,false,none,false,0⟩
def yA:TI:=⟨true,171,(zN 171 221122110221122110221122110221122110221122110221122110221122110221122110221122110221122110221122110221122110221122110221122110221122110221122110221122110221122110221122110),[(0,51),(99,52)],none,none,true,false,none,1368,false,none,false,0⟩
def simQ:=And.intro @Tr.asks.eq_1 (And.intro @Tr.asks.eq_2 (And.intro @Tr.asks.eq_3 (And.intro @Tr.asks.eq_4 (And.intro @Tr.asks.eq_5 (And.intro @Tr.asks.eq_6 (And.intro @Tr.asks.eq_7 (And.intro @Tr.asks.eq_8 (And.intro @Tr.asks.eq_9 (And.intro @Tr.asks.eq_10 (And.intro @Tr.asks.eq_11 (And.intro @okDs.eq_1 (And.intro @okDs.eq_2 (And.intro @okDs.eq_3 (And.intro @okD.eq_1 (And.intro @okD.eq_2 (And.intro @okD.eq_3 (And.intro @okD.eq_4 (And.intro @eqs.eq_1 (And.intro @eqs.eq_2 (And.intro @eqs.eq_3 (And.intro @eqs.eq_4 (And.intro @eqs.eq_5 (And.intro @E.I.eq_1 (And.intro @E.I.eq_2 (And.intro @E.I.eq_3 (And.intro @E.I.eq_4 (And.intro @E.I.eq_5 (And.intro @E.I.eq_6 (And.intro @E.I.eq_7 (And.intro @E.I.eq_8 (And.intro @E.I.eq_9 (And.intro @E.I.eq_10 (And.intro @E.I.eq_11 (And.intro @E.I.eq_12 (And.intro @E.B.eq_1 (And.intro @E.B.eq_2 (And.intro @E.B.eq_3 (And.intro @E.B.eq_4 (And.intro @E.B.eq_5 (And.intro @E.B.eq_6 (And.intro @E.B.eq_7 (And.intro @E.B.eq_8 (And.intro @E.B.eq_9 (And.intro @E.B.eq_10 (And.intro @E.L.eq_1 (And.intro @E.L.eq_2 (And.intro @E.L.eq_3 (And.intro @E.R.eq_1 (And.intro @E.R.eq_2 (And.intro @E.R.eq_3 (And.intro @E.R.eq_4 (And.intro @E.R.eq_5 (And.intro @E.R.eq_6 (And.intro @E.R.eq_7 (And.intro @E.R.eq_8 (And.intro @E.R.eq_9 (And.intro @E.R.eq_10 (And.intro @E.D.eq_1 (And.intro @E.D.eq_2 (And.intro @E.D.eq_3 (And.intro @E.D.eq_4 (And.intro @E.vs.eq_1 (And.intro @E.vs.eq_2 (And.intro @E.gs.eq_1 (And.intro @E.gs.eq_2 (And.intro @E.ins.eq_1 (And.intro @E.sv.eq_1 (And.intro @E.sv.eq_2 (And.intro @E.tn.eq_1 (And.intro @E.tn.eq_2 (And.intro @E.iv.eq_1 (And.intro @E.iv.eq_2 (And.intro @E.zs.eq_1 (And.intro @E.zs.eq_2 (And.intro @E.zr.eq_1 (And.intro @E.zr.eq_2 (And.intro @E.sg.eq_1 (And.intro @E.sg.eq_2 (And.intro @E.tg.eq_1 (And.intro @E.tg.eq_2 (And.intro @E.rg.eq_1 (And.intro @E.rgs.eq_1 (And.intro @E.rgs.eq_2 (And.intro @E.rgs.eq_3 (And.intro @E.rgs.eq_4 (And.intro @E.pv.eq_1 (And.intro @E.pv.eq_2 (And.intro @dI.eq_1 (And.intro @dB.eq_1 (And.intro @dL.eq_1 (And.intro @varD.eq_1 (And.intro @varD.eq_2 (And.intro @varD.eq_3 (And.intro @varsD.eq_1 (@varsD.eq_2)))))))))))))))))))))))))))))))))))))))))))))))))))))))))))))))))))))))))))))))))))))))))))))))
def tpr:Nat->Nat->List Pl
 | _,0=>[]
 | a,n+1=>.top a::tpr (a+1) n
def tps:List (Nat×Nat)->List Pl
 | []=>[]
 | x::l=>tpr x.1 x.2++tps l
end Go.Proofs.YtfkhblmeioiciaaGreatDoor
